import PyProof.Rows.All
import Wide.All
import OpenK.AllK
import Wide.FinOn
import HandS.ForMost
import HandS.FStr
import HandS.TupAny
import HandS.DictComp
import HandS.IsInst
import HandS.Wide
import HandS.Style
import HandS.Walk
import HandS.ExcOwn
import HandS.WordsExc
import HandS.Iter
import KE.GoesEnum
import HandS.Text
import KE.KExcSuper
import HandS.ExcIs
import HandS.ExcField
import HandS.TryMany
import KE.KExcIs
import KE.RegKSuper
import PySem.Challenge.RW_nestsay_k18_journal_rows_and_every_begin
set_option Elab.async false
set_option linter.all false
set_option maxRecDepth 100000
set_option maxHeartbeats 4000000
/-! The text of the row by places: each def, its slots, its scope. -/
namespace KJ
open PySem PySem.Spec PyProof.Rows L2
def topS (i : Nat) : Stmt := PySem.Challenge.pw_nestsay_k18_journal_rows_and_every_begin.main.body.getD i (.Pass ⟨0, 0, 0, 0⟩)
abbrev s_is_whole : Stmt := topS 9
abbrev N_is_whole : List Str := ["value"]
theorem sc_is_whole : FnScope N_is_whole ["value"] (defScope s_is_whole) := ⟨rfl, rfl, rfl, by decide +kernel, rfl, by decide +kernel, by decide +kernel⟩
abbrev s_made_rooms : Stmt := topS 10
abbrev N_made_rooms : List Str := ["thing", "x", "many"]
theorem sc_made_rooms : FnScope N_made_rooms ["thing"] (defScope s_made_rooms) := ⟨rfl, rfl, rfl, by decide +kernel, rfl, by decide +kernel, by decide +kernel⟩
abbrev s_is_rooms : Stmt := topS 11
abbrev N_is_rooms : List Str := ["thing", "many"]
theorem sc_is_rooms : FnScope N_is_rooms ["thing"] (defScope s_is_rooms) := ⟨rfl, rfl, rfl, by decide +kernel, rfl, by decide +kernel, by decide +kernel⟩
abbrev s_is_place : Stmt := topS 13
abbrev N_is_place : List Str := ["rooms", "x", "place", "holder", "room"]
theorem sc_is_place : FnScope N_is_place ["rooms", "x", "place"] (defScope s_is_place) := ⟨rfl, rfl, rfl, by decide +kernel, rfl, by decide +kernel, by decide +kernel⟩
abbrev s_lies_in_itself : Stmt := topS 14
abbrev N_lies_in_itself : List Str := ["forest", "x", "here", "_"]
theorem sc_lies_in_itself : FnScope N_lies_in_itself ["forest", "x"] (defScope s_lies_in_itself) := ⟨rfl, rfl, rfl, by decide +kernel, rfl, by decide +kernel, by decide +kernel⟩
abbrev s_first_bad : Stmt := topS 15
abbrev N_first_bad : List Str := ["rooms", "forest", "x", "place"]
theorem sc_first_bad : FnScope N_first_bad ["rooms", "forest"] (defScope s_first_bad) := ⟨rfl, rfl, rfl, by decide +kernel, rfl, by decide +kernel, by decide +kernel⟩
abbrev s_first_ring : Stmt := topS 16
abbrev N_first_ring : List Str := ["forest", "x"]
theorem sc_first_ring : FnScope N_first_ring ["forest"] (defScope s_first_ring) := ⟨rfl, rfl, rfl, by decide +kernel, rfl, by decide +kernel, by decide +kernel⟩
abbrev s_is_forest : Stmt := topS 17
abbrev N_is_forest : List Str := ["rooms", "forest"]
theorem sc_is_forest : FnScope N_is_forest ["rooms", "forest"] (defScope s_is_forest) := ⟨rfl, rfl, rfl, by decide +kernel, rfl, by decide +kernel, by decide +kernel⟩
abbrev s_around : Stmt := topS 18
abbrev N_around : List Str := ["forest", "x", "told", "place"]
theorem sc_around : FnScope N_around ["forest", "x"] (defScope s_around) := ⟨rfl, rfl, rfl, by decide +kernel, rfl, by decide +kernel, by decide +kernel⟩
abbrev s_put : Stmt := topS 19
abbrev N_put : List Str := ["forest", "x", "place"]
theorem sc_put : FnScope N_put ["forest", "x", "place"] (defScope s_put) := ⟨rfl, rfl, rfl, by decide +kernel, rfl, by decide +kernel, by decide +kernel⟩
abbrev s_place_word : Stmt := topS 21
abbrev N_place_word : List Str := ["place"]
theorem sc_place_word : FnScope N_place_word ["place"] (defScope s_place_word) := ⟨rfl, rfl, rfl, by decide +kernel, rfl, by decide +kernel, by decide +kernel⟩
abbrev s_forest_words : Stmt := topS 22
abbrev N_forest_words : List Str := ["forest", "place"]
theorem sc_forest_words : FnScope N_forest_words ["forest"] (defScope s_forest_words) := ⟨rfl, rfl, rfl, by decide +kernel, rfl, by decide +kernel, by decide +kernel⟩
abbrev s_base_text : Stmt := topS 23
abbrev N_base_text : List Str := ["forest"]
theorem sc_base_text : FnScope N_base_text ["forest"] (defScope s_base_text) := ⟨rfl, rfl, rfl, by decide +kernel, rfl, by decide +kernel, by decide +kernel⟩
abbrev s_open_text : Stmt := topS 24
abbrev N_open_text : List Str := ["number", "hangs", "x", "place"]
theorem sc_open_text : FnScope N_open_text ["number", "hangs"] (defScope s_open_text) := ⟨rfl, rfl, rfl, by decide +kernel, rfl, by decide +kernel, by decide +kernel⟩
abbrev s_lay_text : Stmt := topS 25
abbrev N_lay_text : List Str := ["number", "forest"]
theorem sc_lay_text : FnScope N_lay_text ["number", "forest"] (defScope s_lay_text) := ⟨rfl, rfl, rfl, by decide +kernel, rfl, by decide +kernel, by decide +kernel⟩
abbrev s_shut_text : Stmt := topS 26
abbrev N_shut_text : List Str := ["number"]
theorem sc_shut_text : FnScope N_shut_text ["number"] (defScope s_shut_text) := ⟨rfl, rfl, rfl, by decide +kernel, rfl, by decide +kernel, by decide +kernel⟩
abbrev s_names_of : Stmt := topS 27
abbrev N_names_of : List Str := ["rooms", "places", "x", "room", "place"]
theorem sc_names_of : FnScope N_names_of ["rooms"] (defScope s_names_of) := ⟨rfl, rfl, rfl, by decide +kernel, rfl, by decide +kernel, by decide +kernel⟩
abbrev s_forest_read : Stmt := topS 28
abbrev N_forest_read : List Str := ["rooms", "places", "words", "forest", "word"]
theorem sc_forest_read : FnScope N_forest_read ["rooms", "places", "words"] (defScope s_forest_read) := ⟨rfl, rfl, rfl, by decide +kernel, rfl, by decide +kernel, by decide +kernel⟩
abbrev s_hang_read : Stmt := topS 29
abbrev N_hang_read : List Str := ["names", "word", "things", "places", "parts"]
theorem sc_hang_read : FnScope N_hang_read ["names", "word"] (defScope s_hang_read) := ⟨rfl, rfl, rfl, by decide +kernel, rfl, by decide +kernel, by decide +kernel⟩
abbrev s_moves : Stmt := topS 30
abbrev N_moves : List Str := ["rooms", "forest", "x", "place"]
theorem sc_moves : FnScope N_moves ["rooms", "forest", "x", "place"] (defScope s_moves) := ⟨rfl, rfl, rfl, by decide +kernel, rfl, by decide +kernel, by decide +kernel⟩
abbrev s_hangs_read : Stmt := topS 31
abbrev N_hangs_read : List Str := ["rooms", "names", "forest", "words", "hangs", "word", "hang", "x", "_"]
theorem sc_hangs_read : FnScope N_hangs_read ["rooms", "names", "forest", "words"] (defScope s_hangs_read) := ⟨rfl, rfl, rfl, by decide +kernel, rfl, by decide +kernel, by decide +kernel⟩
abbrev s_behind : Stmt := topS 32
abbrev N_behind : List Str := ["forest", "hangs", "x", "place"]
theorem sc_behind : FnScope N_behind ["forest", "hangs"] (defScope s_behind) := ⟨rfl, rfl, rfl, by decide +kernel, rfl, by decide +kernel, by decide +kernel⟩
abbrev s_closed : Stmt := topS 33
abbrev N_closed : List Str := ["forest", "pending"]
theorem sc_closed : FnScope N_closed ["forest", "pending"] (defScope s_closed) := ⟨rfl, rfl, rfl, by decide +kernel, rfl, by decide +kernel, by decide +kernel⟩
abbrev s_row_read : Stmt := topS 34
abbrev N_row_read : List Str := ["rooms", "names", "told", "words", "forest", "pending", "word", "hangs", "target"]
theorem sc_row_read : FnScope N_row_read ["rooms", "names", "told", "words"] (defScope s_row_read) := ⟨rfl, rfl, rfl, by decide +kernel, rfl, by decide +kernel, by decide +kernel⟩
abbrev s_base_read : Stmt := topS 35
abbrev N_base_read : List Str := ["rooms", "names", "words", "forest"]
theorem sc_base_read : FnScope N_base_read ["rooms", "names", "words"] (defScope s_base_read) := ⟨rfl, rfl, rfl, by decide +kernel, rfl, by decide +kernel, by decide +kernel⟩
abbrev s_read_journal : Stmt := topS 36
abbrev N_read_journal : List Str := ["rooms", "text", "pieces", "rows", "names", "told", "index", "words"]
theorem sc_read_journal : FnScope N_read_journal ["rooms", "text"] (defScope s_read_journal) := ⟨rfl, rfl, rfl, by decide +kernel, rfl, by decide +kernel, by decide +kernel⟩
abbrev s_law_pool : Stmt := topS 38
abbrev N_law_pool : List Str := ["_law_script", "_law_k", "_law_cell", "_law_big", "_law_mixed_here"]
theorem sc_law_pool : FnScope N_law_pool ["_law_script", "_law_k"] (defScope s_law_pool) := ⟨rfl, rfl, rfl, by decide +kernel, rfl, by decide +kernel, by decide +kernel⟩
abbrev s_law_take : Stmt := topS 39
abbrev N_law_take : List Str := ["_law_source", "_law_top", "_law_drawn"]
theorem sc_law_take : FnScope N_law_take ["_law_source", "_law_top"] (defScope s_law_take) := ⟨rfl, rfl, rfl, by decide +kernel, rfl, by decide +kernel, by decide +kernel⟩
abbrev s_law_one : Stmt := topS 40
abbrev N_law_one : List Str := ["_law_source", "_law_things"]
theorem sc_law_one : FnScope N_law_one ["_law_source", "_law_things"] (defScope s_law_one) := ⟨rfl, rfl, rfl, by decide +kernel, rfl, by decide +kernel, by decide +kernel⟩
abbrev s_law_mixed : Stmt := topS 41
abbrev N_law_mixed : List Str := ["_law_source", "_law_things", "_law_left", "_law_found", "_law_turn"]
theorem sc_law_mixed : FnScope N_law_mixed ["_law_source", "_law_things"] (defScope s_law_mixed) := ⟨rfl, rfl, rfl, by decide +kernel, rfl, by decide +kernel, by decide +kernel⟩
abbrev s_law_climb : Stmt := topS 42
abbrev N_law_climb : List Str := ["_law_forest", "_law_x", "_law_found", "_law_here", "_law_turn"]
theorem sc_law_climb : FnScope N_law_climb ["_law_forest", "_law_x"] (defScope s_law_climb) := ⟨rfl, rfl, rfl, by decide +kernel, rfl, by decide +kernel, by decide +kernel⟩
abbrev s_law_beneath : Stmt := topS 43
abbrev N_law_beneath : List Str := ["_law_forest", "_law_x", "_law_y", "_law_place"]
theorem sc_law_beneath : FnScope N_law_beneath ["_law_forest", "_law_x"] (defScope s_law_beneath) := ⟨rfl, rfl, rfl, by decide +kernel, rfl, by decide +kernel, by decide +kernel⟩
abbrev s_law_hung : Stmt := topS 44
abbrev N_law_hung : List Str := ["_law_forest", "_law_x", "_law_place"]
theorem sc_law_hung : FnScope N_law_hung ["_law_forest", "_law_x", "_law_place"] (defScope s_law_hung) := ⟨rfl, rfl, rfl, by decide +kernel, rfl, by decide +kernel, by decide +kernel⟩
abbrev s_law_spelled : Stmt := topS 45
abbrev N_law_spelled : List Str := ["_law_place"]
theorem sc_law_spelled : FnScope N_law_spelled ["_law_place"] (defScope s_law_spelled) := ⟨rfl, rfl, rfl, by decide +kernel, rfl, by decide +kernel, by decide +kernel⟩
abbrev s_law_base : Stmt := topS 46
abbrev N_law_base : List Str := ["_law_forest", "_law_place"]
theorem sc_law_base : FnScope N_law_base ["_law_forest"] (defScope s_law_base) := ⟨rfl, rfl, rfl, by decide +kernel, rfl, by decide +kernel, by decide +kernel⟩
abbrev s_law_open : Stmt := topS 47
abbrev N_law_open : List Str := ["_law_number_here", "_law_row", "_law_hang"]
theorem sc_law_open : FnScope N_law_open ["_law_number_here", "_law_row"] (defScope s_law_open) := ⟨rfl, rfl, rfl, by decide +kernel, rfl, by decide +kernel, by decide +kernel⟩
abbrev s_law_number : Stmt := topS 48
abbrev N_law_number : List Str := ["_law_thing", "_law_most"]
theorem sc_law_number : FnScope N_law_number ["_law_thing", "_law_most"] (defScope s_law_number) := ⟨rfl, rfl, rfl, by decide +kernel, rfl, by decide +kernel, by decide +kernel⟩
abbrev s_law_rooms : Stmt := topS 49
abbrev N_law_rooms : List Str := ["_law_source", "_law_many", "_law_x"]
theorem sc_law_rooms : FnScope N_law_rooms ["_law_source", "_law_many"] (defScope s_law_rooms) := ⟨rfl, rfl, rfl, by decide +kernel, rfl, by decide +kernel, by decide +kernel⟩
abbrev s_law_grown : Stmt := topS 50
abbrev N_law_grown : List Str := ["_law_source", "_law_rooms_here", "_law_order", "_law_places_here", "_law_at", "_law_some", "_law_holder", "_law_x", "_law_y"]
theorem sc_law_grown : FnScope N_law_grown ["_law_source", "_law_rooms_here"] (defScope s_law_grown) := ⟨rfl, rfl, rfl, by decide +kernel, rfl, by decide +kernel, by decide +kernel⟩
abbrev s_law_places : Stmt := topS 51
abbrev N_law_places : List Str := ["_law_rooms_here", "_law_forest", "_law_x", "_law_inner", "_law_found", "_law_y", "_law_room", "_law_place"]
theorem sc_law_places : FnScope N_law_places ["_law_rooms_here", "_law_forest", "_law_x"] (defScope s_law_places) := ⟨rfl, rfl, rfl, by decide +kernel, rfl, by decide +kernel, by decide +kernel⟩
abbrev s_law_hang_row : Stmt := topS 52
abbrev N_law_hang_row : List Str := ["_law_source", "_law_rooms_here", "_law_forest", "_law_x", "_law_row", "_law_left", "_law_turn", "_law_places_here", "_law_place", "_law_y"]
theorem sc_law_hang_row : FnScope N_law_hang_row ["_law_source", "_law_rooms_here", "_law_forest"] (defScope s_law_hang_row) := ⟨rfl, rfl, rfl, by decide +kernel, rfl, by decide +kernel, by decide +kernel⟩
abbrev s_law_lay : Stmt := topS 53
abbrev N_law_lay : List Str := ["_law_number_here", "_law_forest", "_law_place"]
theorem sc_law_lay : FnScope N_law_lay ["_law_number_here", "_law_forest"] (defScope s_law_lay) := ⟨rfl, rfl, rfl, by decide +kernel, rfl, by decide +kernel, by decide +kernel⟩
abbrev s_law_journal : Stmt := topS 54
abbrev N_law_journal : List Str := ["_law_source", "_law_rooms_here", "_law_forest", "_law_rows", "_law_states", "_law_pending", "_law_behind", "_law_turn", "_law_number_here", "_law_way", "_law_row", "_law_end"]
theorem sc_law_journal : FnScope N_law_journal ["_law_source", "_law_rooms_here", "_law_forest"] (defScope s_law_journal) := ⟨rfl, rfl, rfl, by decide +kernel, rfl, by decide +kernel, by decide +kernel⟩
abbrev s_law_is_told : Stmt := topS 55
abbrev N_law_is_told : List Str := ["_law_told", "_law_due"]
theorem sc_law_is_told : FnScope N_law_is_told ["_law_told", "_law_due"] (defScope s_law_is_told) := ⟨rfl, rfl, rfl, by decide +kernel, rfl, by decide +kernel, by decide +kernel⟩
abbrev s_law_read_right : Stmt := topS 56
abbrev N_law_read_right : List Str := ["_law_rooms_here", "_law_rows", "_law_states", "_law_at", "_law_text", "_law_many", "_law_size", "_law_row", "fault", "_law_due"]
theorem sc_law_read_right : FnScope N_law_read_right ["_law_rooms_here", "_law_rows", "_law_states", "_law_at"] (defScope s_law_read_right) := ⟨rfl, rfl, rfl, by decide +kernel, rfl, by decide +kernel, by decide +kernel⟩
abbrev s_law_texts_right : Stmt := topS 57
abbrev N_law_texts_right : List Str := ["_law_source", "_law_rooms_here", "_law_forest", "_law_number_here", "_law_other", "_law_row", "_law_end"]
theorem sc_law_texts_right : FnScope N_law_texts_right ["_law_source", "_law_rooms_here", "_law_forest"] (defScope s_law_texts_right) := ⟨rfl, rfl, rfl, by decide +kernel, rfl, by decide +kernel, by decide +kernel⟩
abbrev s_law_long_right : Stmt := topS 58
abbrev N_law_long_right : List Str := ["_law_source", "_law_rows", "_law_forest", "_law_states", "_law_turn", "_law_place", "_law_row", "_law_number_here", "_law_size", "_law_at"]
theorem sc_law_long_right : FnScope N_law_long_right ["_law_source"] (defScope s_law_long_right) := ⟨rfl, rfl, rfl, by decide +kernel, rfl, by decide +kernel, by decide +kernel⟩
abbrev s_law : Stmt := topS 59
abbrev N_law : List Str := ["_law_script", "_law_k", "_law_source", "_law_many", "_law_rooms_here", "_law_forest", "_law_rows", "_law_states", "_law_size", "_law_ends", "_law_row", "_law_at", "_law_turn"]
theorem sc_law : FnScope N_law ["_law_script"] (defScope s_law) := ⟨rfl, rfl, rfl, by decide +kernel, rfl, by decide +kernel, by decide +kernel⟩

end KJ
set_option maxHeartbeats 4000000
namespace KJ
open PySem PySem.Spec PyProof.Rows L2
/-! ### data in the heap -/
mutual
inductive Rp (H : Hp) : V → PyData → Prop
  | non : Rp H .non .none
  | bl (b : Bool) : Rp H (.bl b) (.bool b)
  | int (i : Int) : Rp H (.int i) (.int i)
  | str (x : Str) : Rp H (.str x) (.str x)
  | lst {a : Addr} {xs : List V} {ds : List PyData} : H a = some (.lst xs) → RpA H xs ds → Rp H (.ref a) (.list ds)
  | tup {a : Addr} {xs : List V} {ds : List PyData} : H a = some (.tup xs) → RpA H xs ds → Rp H (.ref a) (.tuple ds)
inductive RpA (H : Hp) : List V → List PyData → Prop
  | nil : RpA H [] []
  | cons {v : V} {vs : List V} {d : PyData} {ds : List PyData} : Rp H v d → RpA H vs ds → RpA H (v :: vs) (d :: ds)
end
mutual
theorem Rp.mono {H H' : Hp} (e : Same H H') : ∀ {v : V} {d : PyData}, Rp H v d → Rp H' v d
  | _, _, .non => .non
  | _, _, .bl b => .bl b
  | _, _, .int i => .int i
  | _, _, .str x => .str x
  | _, _, .lst h r => .lst (e _ _ h) (RpA.mono e r)
  | _, _, .tup h r => .tup (e _ _ h) (RpA.mono e r)
theorem RpA.mono {H H' : Hp} (e : Same H H') : ∀ {vs : List V} {ds : List PyData}, RpA H vs ds → RpA H' vs ds
  | _, _, .nil => .nil
  | _, _, .cons h r => .cons (Rp.mono e h) (RpA.mono e r)
end
mutual
theorem Rp.dp {K : PySem.W.Frag} {H : Hp} : ∀ {v : V} {d : PyData}, Rp H v d → Dp K H v d
  | _, _, .non => .non
  | _, _, .bl b => .bl b
  | _, _, .int i => .int i
  | _, _, .str x => .str x
  | _, _, .lst h r => .lst (SqL.of h) (RpA.dp r)
  | _, _, .tup h r => .tup (SqT.of h) (RpA.dp r)
theorem RpA.dp {K : PySem.W.Frag} {H : Hp} : ∀ {vs : List V} {ds : List PyData}, RpA H vs ds → DpAll K H vs ds
  | _, _, .nil => .nil
  | _, _, .cons h r => .cons (Rp.dp h) (RpA.dp r)
end
section
variable {H : Hp} {v : V} {vs ws : List V} {d : PyData} {ds es : List PyData}
theorem Rp.tup_inv (h : Rp H v (.tuple ds)) : ∃ a xs, v = .ref a ∧ H a = some (.tup xs) ∧ RpA H xs ds := by
  cases h with
  | tup h r => exact ⟨_, _, rfl, h, r⟩
theorem Rp.lst_inv (h : Rp H v (.list ds)) : ∃ a xs, v = .ref a ∧ H a = some (.lst xs) ∧ RpA H xs ds := by
  cases h with
  | lst h r => exact ⟨_, _, rfl, h, r⟩
theorem Rp.non_inv (h : Rp H v .none) : v = .non := by cases h; rfl
theorem Rp.int_inv {i : Int} (h : Rp H v (.int i)) : v = .int i := by cases h; rfl
theorem Rp.str_inv {x : Str} (h : Rp H v (.str x)) : v = .str x := by cases h; rfl
theorem Rp.bl_inv {x : Bool} (h : Rp H v (.bool x)) : v = .bl x := by cases h; rfl
theorem RpA.len : ∀ {vs : List V} {ds : List PyData}, RpA H vs ds → vs.length = ds.length
  | _, _, .nil => rfl
  | _, _, .cons _ r => by rw [List.length_cons, List.length_cons, RpA.len r]
theorem RpA.get : ∀ {vs : List V} {ds : List PyData} {i : Nat} {d : PyData}, RpA H vs ds → ds[i]? = some d → ∃ v, vs[i]? = some v ∧ Rp H v d
  | _, _, _, _, .nil, e => by simp at e
  | _, _, 0, _, .cons h _, e => by
    have e1 := Option.some.inj e
    subst e1
    exact ⟨_, rfl, h⟩
  | _, _, i + 1, _, .cons _ r, e => RpA.get (i := i) r e
theorem RpA.getV : ∀ {vs : List V} {ds : List PyData} {i : Nat} {v : V}, RpA H vs ds → vs[i]? = some v → ∃ d, ds[i]? = some d ∧ Rp H v d
  | _, _, _, _, .nil, e => by simp at e
  | _, _, 0, _, .cons h _, e => by
    have e1 := Option.some.inj e
    subst e1
    exact ⟨_, rfl, h⟩
  | _, _, i + 1, _, .cons _ r, e => RpA.getV (i := i) r e
theorem RpA.app : ∀ {vs ws : List V} {ds es : List PyData}, RpA H vs ds → RpA H ws es → RpA H (vs ++ ws) (ds ++ es)
  | _, _, _, _, .nil, s => s
  | _, _, _, _, .cons h r, s => .cons h (RpA.app r s)
theorem RpA.snoc (r : RpA H vs ds) (h : Rp H v d) : RpA H (vs ++ [v]) (ds ++ [d]) := r.app (.cons h .nil)
theorem RpA.take : ∀ {vs : List V} {ds : List PyData} (n : Nat), RpA H vs ds → RpA H (vs.take n) (ds.take n)
  | _, _, 0, _ => .nil
  | _, _, _ + 1, .nil => .nil
  | _, _, n + 1, .cons h r => .cons h (RpA.take n r)
theorem RpA.drop : ∀ {vs : List V} {ds : List PyData} (n : Nat), RpA H vs ds → RpA H (vs.drop n) (ds.drop n)
  | _, _, 0, r => r
  | _, _, _ + 1, .nil => .nil
  | _, _, n + 1, .cons _ r => RpA.drop n r
theorem RpA.set : ∀ {vs : List V} {ds : List PyData} (n : Nat), RpA H vs ds → Rp H v d → RpA H (vs.set n v) (ds.set n d)
  | _, _, _, .nil, _ => .nil
  | _, _, 0, .cons _ r, h => .cons h r
  | _, _, n + 1, .cons q r, h => .cons q (RpA.set n r h)
theorem RpA.ints : ∀ ns : List Int, RpA H (ns.map V.int) (ns.map PyData.int)
  | [] => .nil
  | n :: r => .cons (.int n) (RpA.ints r)
theorem RpA.strs : ∀ ns : List Str, RpA H (ns.map V.str) (ns.map PyData.str)
  | [] => .nil
  | n :: r => .cons (.str n) (RpA.strs r)
theorem RpA.ints_inv : ∀ {ns : List Int} {vs : List V}, RpA H vs (ns.map PyData.int) → vs = ns.map V.int
  | [], _, h => by
    have h' : RpA H _ [] := h
    cases h'
    rfl
  | n :: r, vs, h => by
    have h' : RpA H vs (.int n :: r.map PyData.int) := h
    cases h' with
    | cons h1 h2 => rw [h1.int_inv, RpA.ints_inv h2]; rfl
theorem RpA.strs_inv : ∀ {ns : List Str} {vs : List V}, RpA H vs (ns.map PyData.str) → vs = ns.map V.str
  | [], _, h => by
    have h' : RpA H _ [] := h
    cases h'
    rfl
  | n :: r, vs, h => by
    have h' : RpA H vs (.str n :: r.map PyData.str) := h
    cases h' with
    | cons h1 h2 => rw [h1.str_inv, RpA.strs_inv h2]; rfl
end

/-! ### two heaps: G what is known and stays, H what is there; M: what was there and may change -/
structure Xt (M : List Addr) (G H G' H' : Hp) : Prop where
  gg : Same G G'
  gh : Same G' H'
  hh : ∀ b o, b ∉ M → H b = some o → H' b = some o
  lv : ∀ b o, H b = some o → ∃ o', H' b = some o'
  nn : ∀ b o, H b = some o → G b = none → G' b = none
section
variable {M M' : List Addr} {G H G' H' G2 H2 G3 H3 : Hp} {p : Addr} {o o' : HO}
theorem Xt.refl (s : Same G H) : Xt M G H G H := ⟨Same.refl _, s, fun _ _ _ h => h, fun b o h => ⟨o, h⟩, fun _ _ _ h => h⟩
theorem Xt.trans (a : Xt M G H G' H') (b : Xt M G' H' G2 H2) : Xt M G H G2 H2 :=
  ⟨a.gg.trans b.gg, b.gh, fun c o n h => b.hh c o n (a.hh c o n h), fun c o h => let ⟨o', h'⟩ := a.lv c o h; b.lv c o' h', fun c o h n => let ⟨o', h'⟩ := a.lv c o h; b.nn c o' h' (a.nn c o h n)⟩
theorem Xt.mono (a : Xt M G H G' H') (s : ∀ b ∈ M, b ∈ M') : Xt M' G H G' H' := ⟨a.gg, a.gh, fun c o n h => a.hh c o (fun z => n (s c z)) h, a.lv, a.nn⟩
theorem Xt.up (a : Xt [] G H G' H') : Xt M G H G' H' := a.mono fun _ z => absurd z List.not_mem_nil
/-- a new thing that stays -/
theorem Xt.new (a : Xt M G H G' H') (n : H' p = none) : Xt M G H (upd G' p o) (upd H' p o) := by
  have nG : G' p = none := a.gh.free n
  refine ⟨fun b u e => ?_, fun b u e => ?_, fun b u m e => ?_, fun b u e => ?_, fun b u e z => ?_⟩
  · rw [upd_ne (ne_of_none (a.gg b u e) nG)]; exact a.gg b u e
  · by_cases hb : b = p
    · subst hb; rw [upd_same] at e ⊢; exact e
    · rw [upd_ne hb] at e ⊢; exact a.gh b u e
  · rw [upd_ne (ne_of_none (a.hh b u m e) n)]; exact a.hh b u m e
  · obtain ⟨u', e'⟩ := a.lv b u e
    exact ⟨u', by rw [upd_ne (ne_of_none e' n)]; exact e'⟩
  · obtain ⟨u', e'⟩ := a.lv b u e
    rw [upd_ne (ne_of_none e' n)]; exact a.nn b u e z
/-- a new thing that may change -/
theorem Xt.newM (a : Xt M G H G' H') (n : H' p = none) : Xt M G H G' (upd H' p o) := by
  refine ⟨a.gg, fun b u e => ?_, fun b u m e => ?_, fun b u e => ?_, a.nn⟩
  · rw [upd_ne (ne_of_none (a.gh b u e) n)]; exact a.gh b u e
  · rw [upd_ne (ne_of_none (a.hh b u m e) n)]; exact a.hh b u m e
  · obtain ⟨u', e'⟩ := a.lv b u e
    exact ⟨u', by rw [upd_ne (ne_of_none e' n)]; exact e'⟩
/-- what may change is changed -/
theorem Xt.mut (a : Xt M G H G' H') (g : G' p = none) (h : p ∈ M ∨ H p = none) : Xt M G H G' (upd H' p o) := by
  refine ⟨a.gg, fun b u e => ?_, fun b u m e => ?_, fun b u e => ?_, a.nn⟩
  · rw [upd_ne (ne_of_none e g)]; exact a.gh b u e
  · have nb : b ≠ p := by
      rintro rfl
      rcases h with h | h
      · exact m h
      · rw [h] at e; cases e
    rw [upd_ne nb]; exact a.hh b u m e
  · by_cases hb : b = p
    · exact ⟨o, by rw [hb, upd_same]⟩
    · obtain ⟨u', e'⟩ := a.lv b u e
      exact ⟨u', by rw [upd_ne hb]; exact e'⟩
/-- what was new and has changed stays from here on -/
theorem Xt.frz (a : Xt M G H G' H') (h : H p = none) (e : H' p = some o) (g : G' p = none) : Xt M G H (upd G' p o) H' := by
  refine ⟨fun b u q => ?_, fun b u q => ?_, a.hh, a.lv, fun b u q z => ?_⟩
  · rw [upd_ne (ne_of_none (a.gg b u q) g)]; exact a.gg b u q
  · by_cases hb : b = p
    · subst hb; rw [upd_same] at q; rw [← q]; exact e
    · rw [upd_ne hb] at q; exact a.gh b u q
  · have nb : b ≠ p := by rintro rfl; rw [h] at q; cases q
    rw [upd_ne nb]; exact a.nn b u q z
theorem Xt.hk (a : Xt [] G H G' H') {b : Addr} (e : H b = some o) : H' b = some o := a.hh b o List.not_mem_nil e
/-- only the actual heap grew, and only by things nobody knows -/
theorem Xt.same (s : Same G H) (t : Same H H') : Xt M G H G H' := ⟨Same.refl _, s.trans t, fun b o _ e => t b o e, fun b o e => ⟨o, t b o e⟩, fun _ _ _ z => z⟩
theorem same_new (n : H p = none) : Same H (upd H p o) := fun b u e => by rw [upd_ne (ne_of_none e n)]; exact e
end

/-! ### the places, the forests, the hangs as data -/
abbrev Place := Option (Nat × Nat)
abbrev Forest := List Place
abbrev Hang := Nat × Place
def pd : Place → PyData
  | none => .none
  | some (h, r) => .tuple [.int (h : Int), .int (r : Int)]
def fod (f : Forest) : PyData := .tuple (f.map pd)
def hd (h : Hang) : PyData := .tuple [.int (h.1 : Int), pd h.2]
def rd (rs : List Nat) : PyData := .tuple (rs.map fun n : Nat => PyData.int (n : Int))
section
variable {H : Hp} {v : V}
theorem pd_none (h : Rp H v (pd none)) : v = .non := Rp.non_inv h
theorem pd_some {h r : Nat} (q : Rp H v (pd (some (h, r)))) : ∃ a, v = .ref a ∧ H a = some (.tup [.int (h : Int), .int (r : Int)]) := by
  obtain ⟨a, xs, rfl, e, z⟩ := Rp.tup_inv (ds := [.int (h : Int), .int (r : Int)]) q
  cases z with
  | cons z1 z =>
    cases z with
    | cons z2 z =>
      cases z
      rw [z1.int_inv, z2.int_inv] at e
      exact ⟨a, rfl, e⟩
theorem hd_inv {h : Hang} (q : Rp H v (hd h)) : ∃ a y, v = .ref a ∧ H a = some (.tup [.int (h.1 : Int), y]) ∧ Rp H y (pd h.2) := by
  obtain ⟨a, xs, rfl, e, z⟩ := Rp.tup_inv (ds := [.int (h.1 : Int), pd h.2]) q
  cases z with
  | cons z1 z =>
    cases z with
    | cons z2 z =>
      cases z
      rw [z1.int_inv] at e
      exact ⟨a, _, rfl, e, z2⟩
theorem rd_inv {rs : List Nat} (q : Rp H v (rd rs)) : ∃ a, v = .ref a ∧ H a = some (.tup (rs.map fun n : Nat => V.int (n : Int))) := by
  obtain ⟨a, xs, rfl, e, z⟩ := Rp.tup_inv q
  have z' : RpA H xs ((rs.map fun n => ((n : Nat) : Int)).map PyData.int) := by rw [List.map_map]; exact z
  rw [z'.ints_inv, List.map_map] at e
  exact ⟨a, rfl, e⟩
theorem rd_mk {rs : List Nat} {a : Addr} (e : H a = some (.tup (rs.map fun n : Nat => V.int (n : Int)))) : Rp H (.ref a) (rd rs) := by
  refine .tup e ?_
  have z := RpA.ints (H := H) (rs.map fun n => ((n : Nat) : Int))
  rw [List.map_map, List.map_map] at z
  exact z
end
/-- texts that may be compared -/
theorem canLay_app : ∀ {ds es : List PyData}, PyData.canLayAll0 ds = true → PyData.canLayAll0 es = true → PyData.canLayAll0 (ds ++ es) = true
  | [], _, _, h => h
  | d :: ds, es, h1, h2 => by
    have h' : d.canLay0 = true ∧ PyData.canLayAll0 ds = true := by simpa [PyData.canLayAll0] using h1
    show (d.canLay0 && PyData.canLayAll0 (ds ++ es)) = true
    rw [h'.1, canLay_app h'.2 h2]
    rfl
def lo (k : Nat) (d : PyData) : Prop := d.canLay0 = true ∧ d.depth ≤ k
def loA (k : Nat) (ds : List PyData) : Prop := PyData.canLayAll0 ds = true ∧ PyData.depthAll ds ≤ k
theorem lo.up {j k : Nat} {d : PyData} (h : lo j d) (z : j ≤ k) : lo k d := ⟨h.1, Nat.le_trans h.2 z⟩
theorem lo.shaped {k : Nat} {d : PyData} (h : lo k d) (z : k ≤ 64) : SeqAt.shaped d = true := by
  unfold SeqAt.shaped
  rw [h.1, decide_eq_true (Nat.le_trans h.2 z)]
  rfl
theorem loA.nil {k : Nat} : loA k [] := ⟨rfl, Nat.zero_le _⟩
theorem loA.cons {k : Nat} {d : PyData} {ds : List PyData} (h : lo k d) (r : loA k ds) : loA k (d :: ds) := by
  refine ⟨?_, ?_⟩
  · show (d.canLay0 && PyData.canLayAll0 ds) = true
    rw [h.1, r.1]
    rfl
  · show max d.depth (PyData.depthAll ds) ≤ k
    exact Nat.max_le.mpr ⟨h.2, r.2⟩
theorem loA.all {k : Nat} : ∀ {ds : List PyData}, (∀ d ∈ ds, lo k d) → loA k ds
  | [], _ => .nil
  | d :: ds, h => .cons (h d (List.mem_cons_self ..)) (loA.all fun e z => h e (List.mem_cons_of_mem _ z))
theorem lo.tup {k : Nat} {ds : List PyData} (r : loA k ds) : lo (k + 1) (.tuple ds) := ⟨r.1, Nat.succ_le_succ r.2⟩
theorem lo.lst {k : Nat} {ds : List PyData} (r : loA k ds) : lo (k + 1) (.list ds) := ⟨r.1, Nat.succ_le_succ r.2⟩
theorem lo.non {k : Nat} : lo k .none := ⟨rfl, Nat.zero_le _⟩
theorem lo.int {k : Nat} {i : Int} : lo k (.int i) := ⟨rfl, Nat.zero_le _⟩
theorem lo.bl {k : Nat} {i : Bool} : lo k (.bool i) := ⟨rfl, Nat.zero_le _⟩
theorem lo.str {k : Nat} {x : Str} (h : PyData.strOk x = true) : lo k (.str x) := ⟨h, Nat.zero_le _⟩
theorem lo.pd (p : Place) : lo 1 (pd p) := match p with
  | none => lo.non
  | some (_, _) => .tup (.cons .int (.cons .int .nil))
theorem lo.fod (f : Forest) : lo 2 (fod f) := .tup (.all fun d h => by
  obtain ⟨p, _, rfl⟩ := List.mem_map.mp h
  exact lo.pd p)
theorem lo.hd (h : Hang) : lo 2 (hd h) := .tup (.cons .int (.cons (lo.pd _) .nil))
theorem pd_eqv (p q : Place) : PyData.eqv (pd p) (pd q) = decide (p = q) := by
  cases p with
  | none => cases q with
    | none => rfl
    | some b => rfl
  | some a => cases q with
    | none => rfl
    | some b =>
      obtain ⟨h, r⟩ := a
      obtain ⟨h', r'⟩ := b
      show ((h : Int) == (h' : Int) && ((r : Int) == (r' : Int) && true)) = _
      rw [Bool.and_true]
      by_cases e1 : h = h'
      · by_cases e2 : r = r'
        · subst e1 e2
          simp
        · have : ¬ ((r : Int) = (r' : Int)) := by omega
          simp [e1, e2, this]
      · have : ¬ ((h : Int) = (h' : Int)) := by omega
        simp [e1, this]
/-! ### calls -/
structure Cal (P : Program) (w : World) (K : PySem.W.Frag) (mg : Str → Option Value) (base : Heap) (k : Nat) (x : Str) (sp : Sp) : Prop where
  ex : ∃ (f : Addr) (fd : FuncData) (ps : List Str), FnOk P w K mg base CX0 k f fd ps sp ∧ mg x = some (.ref f) ∧ PySem.W.keepIn K (.ref f) = true ∧ Binds K fd ps []
section
variable {X : Cx} {k j : Nat} {x : Str} {sp : Sp} {p pos : Pos} {e : Expr} {es : List Expr} {t : TA}
theorem pe_c (c : Cal X.prog X.w X.K X.mg X.base k x sp) (hr : Room j X.A) (hk : k ≤ j) (hg : Gl X x) (ha : PA X (e :: es) t)
    (hdb : (x == ("__debug__" : Str)) = false := by decide) (he : starEach (e :: es) X.env = (false, eval e X.env) :: starEach es X.env := by rfl) (hpl : (backTo pos (starEach es X.env)).any (·.1) = false := by rfl) :
    PE X (.Call (.Name x p) (e :: es) [] pos) (tCall sp [] E0 t) := by
  obtain ⟨f, fd, ps, F, hm, kp, b⟩ := c.ex
  exact pe_call F (hr.mono hk) hg hm kp b .nil pass0 ha hdb he hpl
end
theorem hu64_of {A : Around} {k : Nat} (hr : Room k A) : A.units + 64 < cLine := hr.units
end KJ
set_option maxHeartbeats 4000000
/-! enumerate over a tuple, as a walk of the hand layer. -/
namespace KJ
open PySem PySem.Spec PyProof.Rows L2
theorem meets_enum1 {v : Value} {o : Obj} {H : Heap → Prop} (B : Begins v o H) :
    Meets (Builtin.«enumerate.__new__» ⟨[.type "enumerate", v], []⟩) (fun _ R s => H s.heap ∧
      R (.ok (.ret (.ref (s.heap.push o).objs.size))) { s with heap := (s.heap.push o).push { cls := .type "enumerate", data := .fields #[.none, .bool false, .ref s.heap.objs.size, rawInt 0, .none, .none] } }) :=
  .of_wp fun prog w A R s h => by
    obtain ⟨hp, g, d, tk, os⟩ := s; obtain ⟨h1, h⟩ := h
    have hsub := sub_enumerate
    have q1 : ∀ {A' : Around} {E : Value → Shared → Prop} {Q : Value → Shared → Prop}, Q (.ref hp.objs.size) ⟨hp.push o, g, d, tk, os⟩ → wpAny (model prog w) A' (pyIter v) Q E ⟨hp, g, d, tk, os⟩ :=
      fun q => B.iter prog w _ _ ⟨hp, g, d, tk, os⟩ _ h1 q
    wp_walk using q1
    refine wpAny_stack_any fun st => wpAny_pure ?_
    split
    · rename_i c _ _ _ _ _
      cases (c == Value.type "enumerate")
      · wp_walk using q1
        exact ⟨_, rfl, h⟩
      · wp_walk using q1
        exact ⟨_, rfl, h⟩
    · wp_walk using q1
      exact ⟨_, rfl, h⟩
section
variable {prog : Program} {w : World} {A : Around} {E : Value → Shared → Prop} {s : Shared}
theorem enum_begins1 {v : Value} {o : Obj} {H : Heap → Prop} {Q : Value → Shared → Prop} (B : Begins v o H) (h1 : H s.heap)
    (h : ∀ h', IsEnum h' (s.heap.objs.size + 1) s.heap.objs.size 0 .none → h'.get? s.heap.objs.size = some o → h'.objs.size = s.heap.objs.size + 2 →
      (∀ b o, s.heap.get? b = some o → h'.get? b = some o) → Q (.ref (s.heap.objs.size + 1)) { s with heap := h' }) :
    wpAny (model prog w) A (call (.type "enumerate") [v]) Q E s := by
  refine callType_new F.called_enumerate (by decide) (F.typeCall_enumerate_1 _) (F.newCall_enumerate_1 _) (fun obj => F.args_object_init_2 obj _) F.entry_enumerate_new
    (meets_enum1 B) ⟨h1, ?_⟩
  have hz : (s.heap.push o).objs.size = s.heap.objs.size + 1 := Heap.size_push ..
  show _ ∧ _
  rw [hz]
  have he : IsEnum ((s.heap.push o).push { cls := .type "enumerate", data := .fields #[.none, .bool false, .ref s.heap.objs.size, rawInt 0, .none, .none] }) (s.heap.objs.size + 1) s.heap.objs.size 0 .none := by
    have := Heap.get?_push_size (s.heap.push o) (o := { cls := .type "enumerate", data := .fields #[.none, .bool false, .ref s.heap.objs.size, rawInt 0, .none, .none] }) rfl
    rw [hz] at this; exact this
  refine ⟨⟨_, he, rfl⟩, h _ he (Heap.get?_push_of_some _ (Heap.get?_push_size _ B.free)) (by rw [Heap.size_push, hz]) fun b o x => Heap.get?_push_of_some _ (Heap.get?_push_of_some _ x)⟩
end
/-- the tuple at a, each item in a new pair -/
def IteT (K : PySem.W.Frag) (a : Addr) : It :=
  ⟨fun i H => ∃ (xs : List V) (x : V), SqT K H a xs ∧ xs[i]? = some x, fun i H v H' => ∃ T x, v = .ref T ∧ H T = none ∧ H' = upd H T (.tup [.int (i : Nat), x]) ∧ ∀ xs, SqT K H a xs → xs[i]? = some x, fun i H => ∃ xs : List V, SqT K H a xs ∧ xs.length ≤ i⟩
theorem turn_enumT {P : Program} {w : World} {K : PySem.W.Frag} {elts : List Expr} {kk : Nat} {tpos : Pos} (a e it : Addr) :
    Turn P w K (.Tuple elts kk tpos) (IteT K a) [e, it] e (fun i h => (∃ old, IsEnum h e it ((i : Nat) : Int) old) ∧ h.IsTupleIter it a i ∧ e ≠ it) where
  mem := by simp
  obj := fun i h st b hb => by
    obtain ⟨⟨old, he⟩, ⟨o, ho, hc, hd⟩, _⟩ := st
    have e' : b = e ∨ b = it := by simpa using hb
    rcases e' with z | z
    · rw [z]; exact ⟨_, he, fun v q => nomatch q⟩
    · rw [z]; exact ⟨o, ho, fun v q => by rw [hd] at q; cases q⟩
  keep := fun i h h' st k => let ⟨⟨old, he⟩, hi, hne⟩ := st; ⟨⟨old, k e (by simp) _ he⟩, hi.at fun o q => k it (by simp) o q, hne⟩
  item := by
    intro X hP hw hK hc i pins s σ H E I hf st hg
    subst hP hw hK
    obtain ⟨⟨old, he⟩, hit, hne⟩ := st
    obtain ⟨xs, x, hq, hx⟩ := hg
    obtain ⟨its, rv, p, hz⟩ := I.tuple hq
    obtain ⟨u, hu, ru⟩ := rv.get hx
    have hel : e < s.heap.objs.size := Heap.lt_size he
    have hil : it < s.heap.objs.size := by obtain ⟨_, q, _⟩ := hit; exact Heap.lt_size q
    have p' : s.heap.IsTuple a its.toArray := p
    have nai : a ≠ it := by
      rintro rfl
      obtain ⟨o1, e1, c1, _⟩ := p'
      obtain ⟨o2, e2, c2, _⟩ := hit
      rw [e1] at e2; cases e2
      rw [c1] at c2; exact absurd c2 (by decide)
    have nae : e ≠ a := by
      rintro rfl
      obtain ⟨o1, e1, c1, _⟩ := p'
      rw [he] at e1; cases e1
      have c2 : Value.type "enumerate" = Value.type "tuple" := c1
      exact absurd c2 (by decide)
    have hlt : i < its.toArray.size := by
      have h1 := (List.getElem?_eq_some_iff.mp hu).1
      simpa using h1
    refine wpAny_pyNext_enum_itemD (i := i) (Draws.tuple (A := X.A.in1) (I.ok.hd hc) it a nai its.toArray) he ⟨hit, p'⟩ hlt hne (by simp [hne, nae]) fun y h' tk hPy ho hst hT hsz hk => ?_
    have hy : y = u := by
      have h1 : its.toArray[i]? = some u := by simpa using hu
      rw [h1] at hPy
      exact (Option.some.inj hPy).symm
    subst hy
    obtain ⟨hit', _⟩ := hst
    refine ⟨_, rfl, wpAny_letOwnedTupleGo_enum (s := { s with heap := h', toks := tk + 1 }) ho fun h'' he' sb => ?_⟩
    have hT2 : h''.get? s.heap.objs.size = some { cls := .type "tuple", data := .seq #[.int i tk, y] } := (sb.2 _ (Nat.ne_of_gt hel)).trans hT
    have new : ObjOk X.prog X.w (upd H s.heap.objs.size (.tup [.int (i : Nat), x])) h'' s.heap.objs.size (.tup [.int (i : Nat), x]) :=
      ⟨by show 2 ≤ sizeLine; decide, [.int i tk, y], .cons ⟨_, rfl⟩ (.cons ru .nil), ⟨_, hT2, rfl, _, rfl⟩⟩
    have I1 : Inv X pins σ (upd H s.heap.objs.size (.tup [.int (i : Nat), x])) { s with heap := h'', toks := tk + 1 } :=
      I.turnedNew (ch := [e, it]) (fun b ob hb q => (sb.2 b (fun z => hb (by simp [z]))).trans (hk b ob (fun z => hb (by simp [z])) (fun z => hb (by simp [z])) q)) hf (Nat.le_refl _) new
    refine ⟨.ref s.heap.objs.size, _, I1, rfl, ⟨_, x, rfl, I.hok.fresh (Nat.le_refl _), rfl, fun ys hy => by rw [I.tuple_inj hy hq]; exact hx⟩, ⟨⟨y, ?_⟩, hit'.at fun o q => (sb.2 it (Ne.symm hne)).trans q, hne⟩, fun b hb => ?_⟩
    · have e1 : ((i + 1 : Nat) : Int) = (i : Int) + 1 := by omega
      rw [e1]; exact he'
    · have hb' : b < s.heap.objs.size := by
        have e' : b = e ∨ b = it := by simpa using hb
        rcases e' with z | z
        · rw [z]; exact hel
        · rw [z]; exact hil
      rw [upd_ne (Nat.ne_of_lt hb')]
      exact (hf b hb).1
  done := by
    intro X hP hw hK hc i pins s σ H E I hf st hg
    subst hP hw hK
    obtain ⟨⟨old, he⟩, hit, hne⟩ := st
    obtain ⟨xs, hq, hx⟩ := hg
    obtain ⟨its, rv, p, hz⟩ := I.tuple hq
    have p' : s.heap.IsTuple a its.toArray := p
    have nai : a ≠ it := by
      rintro rfl
      obtain ⟨o1, e1, c1, _⟩ := p'
      obtain ⟨o2, e2, c2, _⟩ := hit
      rw [e1] at e2; cases e2
      rw [c1] at c2; exact absurd c2 (by decide)
    obtain ⟨f0, f1, f2, f3, f4, f5⟩ := hf it (by simp)
    have hl := rv.length
    have hT : s.TypeIs (.ref e) "enumerate" := ⟨_, he, rfl⟩
    unfold pyNext
    refine wpAny_bind (wpAny_attempt (wpAny_callSpecial?_slot (name := Str.ofString "__next__") hT F.slot_enumerate_next
      (wpAny_call_entry F.slot_enumerate_next hT F.entry_enumerate_next ?_ (F.args_enumerate_next_1 _))))
    show wpAny _ _ (field (.ref e) 2 >>= _) _ _ _
    refine wpAny_bind (wpAny_field he rfl (x := .ref it) rfl ?_)
    refine wpAny_bind (wpAny_nextOf_tuple_end (I.ok.hd hc) hit p' (by simp; omega) fun h' x he' hx' => ?_)
    obtain ⟨o, ho, hcl⟩ := hx'
    refine wpAny_bind (wpAny_isInstance (T := "StopIteration") (b := true) ⟨o, ho, hcl⟩ isSubtype_stop ?_)
    exact wpAny_pure ⟨rfl, I.turned (t' := s.toks) (fun b o hb q => he' b o hb q) f0 f1 f3 f4 f5⟩
  self := fun A i s Q E st h => let ⟨⟨_, he⟩, _⟩ := st; wpAny_pyIter_enum he h
def iEnumT (K : PySem.W.Frag) (ta : TA) : TI := fun σ H R => ta σ H fun vs H1 => ∃ a xs, vs = [.ref a] ∧ SqT K H1 a xs ∧ R (IteT K a) H1
theorem pi_enumT {X : Cx} {e : Expr} {ta : TA} {p pos tpos : Pos} {elts : List Expr} {kk : Nat} (hg : Gl X "enumerate") (hm : X.mg "enumerate" = none) (ha : PA X [e] ta) (hs : starEach [e] X.env = [(false, eval e X.env)] := by rfl) :
    PI X (.Tuple elts kk tpos) (.Call (.Name "enumerate" p) [e] [] pos) (iEnumT X.K ta) := by
  refine ⟨fun pins s σ H R I h => ?_⟩
  refine Call_ (ld_blt I hg hm boot_enumerate (PyProof.Rows.callWith_type1 (thn (ha.run pos pins s σ H _ I h) fun us s1 ⟨vs, H1, I1, r1, q1⟩ => ?_) hs rfl))
  obtain ⟨a, xs, ex, hq, q⟩ := q1
  subst ex
  cases r1 with
  | cons r rr =>
    cases rr
    cases r
    obtain ⟨its, rv, p', hz⟩ := I1.tuple hq
    refine enum_begins1 (begins_tuple a its.toArray) p' fun h' he hit hsz hk => wpAny_pyIter_enum he ?_
    have I2 : Inv X pins σ H1 { s1 with heap := h' } := I1.kept (t' := s1.toks) hk
    refine ⟨s1.heap.objs.size + 1, [s1.heap.objs.size + 1, s1.heap.objs.size], _, _, H1, rfl, I2, turn_enumT a (s1.heap.objs.size + 1) s1.heap.objs.size, ⟨⟨.none, he⟩, ⟨_, hit, rfl, rfl⟩, Nat.succ_ne_self _⟩, fun b hb => ?_, q⟩
    have e' : b = s1.heap.objs.size + 1 ∨ b = s1.heap.objs.size := by simpa using hb
    have hle : s1.heap.objs.size ≤ b := by
      rcases e' with z | z
      · rw [z]; exact Nat.le_add_right _ _
      · rw [z]; exact Nat.le_refl _
    exact I1.fpOk hle (I1.hok.fresh hle)
theorem walk_enumT {K : PySem.W.Frag} {a : Addr} {xs : List V} : Walk (IteT K a) xs.length (fun H => SqT K H a xs) (YPair (fun i => some (.int (i : Nat))) (fun i => xs[i]?)) := by
  refine ⟨fun i _ hi q => ⟨xs, xs[i], q, by simp [hi]⟩, fun _ q => ⟨xs, q, Nat.le_refl _⟩, fun i H v H' _ q y => ?_⟩
  obtain ⟨T, x, h1, h2, h3, h4⟩ := y
  exact ⟨T, .int (i : Nat), x, h1, h2, h3, rfl, h4 xs q⟩
end KJ
set_option maxHeartbeats 4000000
/-! Forests: plain mathematics. -/
namespace KJ
def okP (rs : List Nat) (x : Nat) : Place → Prop
  | none => True
  | some (h, r) => h ≠ x ∧ ∃ m, rs[h]? = some m ∧ r < m
/-- the things around x, from its holder outward -/
inductive Anc (f : Forest) : Nat → List Nat → Prop
  | root {x : Nat} : f[x]? = some none → Anc f x []
  | step {x h r : Nat} {l : List Nat} : f[x]? = some (some (h, r)) → Anc f h l → Anc f x (h :: l)
structure Good (rs : List Nat) (f : Forest) : Prop where
  len : f.length = rs.length
  ok : ∀ x p, f[x]? = some p → okP rs x p
  anc : ∀ x, x < f.length → ∃ l, Anc f x l
theorem Anc.lt {f : Forest} {x : Nat} {l : List Nat} (a : Anc f x l) : x < f.length := by
  cases a with
  | root h => exact (List.getElem?_eq_some_iff.mp h).1
  | step h _ => exact (List.getElem?_eq_some_iff.mp h).1
theorem Anc.uniq {f : Forest} {x : Nat} {l : List Nat} (a : Anc f x l) : ∀ {l' : List Nat}, Anc f x l' → l = l' := by
  induction a with
  | root h =>
    intro l' b
    cases b with
    | root _ => rfl
    | step h' _ => rw [h] at h'; cases h'
  | step h _ ih =>
    intro l' b
    cases b with
    | root h' => rw [h] at h'; cases h'
    | step h' b' =>
      rw [h] at h'; cases h'
      rw [ih b']
theorem Anc.mem {f : Forest} {x : Nat} {l : List Nat} (a : Anc f x l) : ∀ y ∈ l, ∃ l', Anc f y l' ∧ l'.length < l.length := by
  induction a with
  | root h => intro y hy; exact absurd hy List.not_mem_nil
  | @step x h r l e b ih =>
    intro y hy
    rcases List.mem_cons.mp hy with rfl | hy
    · exact ⟨l, b, by simp⟩
    · obtain ⟨l', c, z⟩ := ih y hy
      exact ⟨l', c, by rw [List.length_cons]; omega⟩
theorem Anc.not_self {f : Forest} {x : Nat} {l : List Nat} (a : Anc f x l) : x ∉ l := fun h => by
  obtain ⟨l', b, z⟩ := a.mem x h
  rw [a.uniq b] at z
  exact Nat.lt_irrefl _ z
theorem Anc.nodup {f : Forest} {x : Nat} {l : List Nat} (a : Anc f x l) : (x :: l).Nodup := by
  induction a with
  | root h => simp
  | @step x h r l e b ih => exact List.nodup_cons.mpr ⟨(Anc.step e b).not_self, ih⟩
theorem nodup_len : ∀ (n : Nat) (l : List Nat), l.Nodup → (∀ x ∈ l, x < n) → l.length ≤ n
  | 0, [], _, _ => Nat.le_refl _
  | 0, x :: l, _, h => absurd (h x (List.mem_cons_self ..)) (Nat.not_lt_zero _)
  | n + 1, l, nd, h => by
    have h1 := nodup_len n (l.erase n) (nd.erase n) (fun x hx => by
      have e := (nd.mem_erase_iff).mp hx
      have := h x e.2
      have ne : x ≠ n := e.1
      omega)
    have h2 : l.length ≤ (l.erase n).length + 1 := by
      by_cases hm : n ∈ l
      · rw [List.length_erase_of_mem hm]; omega
      · rw [List.erase_of_not_mem hm]; omega
    omega
theorem Anc.len {f : Forest} {x : Nat} {l : List Nat} (a : Anc f x l) : l.length < f.length := by
  have h := nodup_len f.length (x :: l) a.nodup (fun y hy => by
    rcases List.mem_cons.mp hy with rfl | hy
    · exact a.lt
    · obtain ⟨l', b, _⟩ := a.mem y hy
      exact b.lt)
  rw [List.length_cons] at h
  omega
/-- from the i-th thing of the chain on -/
theorem Anc.at {f : Forest} {x : Nat} {l : List Nat} (a : Anc f x l) : ∀ {i y : Nat}, (x :: l)[i]? = some y → Anc f y (l.drop i) := by
  induction a with
  | @root x h =>
    intro i y e
    cases i with
    | zero => cases Option.some.inj e; exact .root h
    | succ i => simp at e
  | @step x h r l q b ih =>
    intro i y e
    cases i with
    | zero => cases Option.some.inj e; exact .step q b
    | succ i => exact ih e
/-- a move away from the chain changes nothing of it -/
theorem Anc.set {f : Forest} {x z : Nat} {p : Place} {l : List Nat} (a : Anc f z l) (h1 : z ≠ x) (h2 : x ∉ l) : Anc (f.set x p) z l := by
  induction a with
  | @root z h => exact .root (by rw [List.getElem?_set_ne (Ne.symm h1)]; exact h)
  | @step z h r l q b ih =>
    exact .step (by rw [List.getElem?_set_ne (Ne.symm h1)]; exact q) (ih (fun e => h2 (by simp [e])) (fun e => h2 (by simp [e])))
/-- where a thing may go -/
def mayGo (f : Forest) (x : Nat) : Place → Prop
  | none => True
  | some (h, _) => h ≠ x ∧ ∃ l, Anc f h l ∧ x ∉ l
theorem Anc.moved {f : Forest} {x : Nat} {p : Place} (hx : x < f.length) (m : mayGo f x p) {z : Nat} {l : List Nat} (a : Anc f z l) : ∃ l', Anc (f.set x p) z l' := by
  induction a with
  | @root z h =>
    by_cases e : z = x
    · subst e
      cases p with
      | none => exact ⟨[], .root (by rw [List.getElem?_set_self hx])⟩
      | some q =>
        obtain ⟨y, r⟩ := q
        obtain ⟨h1, l, b, h2⟩ := m
        exact ⟨_, .step (by rw [List.getElem?_set_self hx]) (b.set h1 h2)⟩
    · exact ⟨[], .root (by rw [List.getElem?_set_ne (Ne.symm e)]; exact h)⟩
  | @step z h r l q b ih =>
    by_cases e : z = x
    · subst e
      cases p with
      | none => exact ⟨[], .root (by rw [List.getElem?_set_self hx])⟩
      | some q =>
        obtain ⟨y, r⟩ := q
        obtain ⟨h1, l, b, h2⟩ := m
        exact ⟨_, .step (by rw [List.getElem?_set_self hx]) (b.set h1 h2)⟩
    · obtain ⟨l', b'⟩ := ih
      exact ⟨_, .step (by rw [List.getElem?_set_ne (Ne.symm e)]; exact q) b'⟩
theorem Good.move {rs : List Nat} {f : Forest} {x : Nat} {p : Place} (g : Good rs f) (hx : x < f.length) (o : okP rs x p) (m : mayGo f x p) : Good rs (f.set x p) where
  len := by rw [List.length_set]; exact g.len
  ok := fun y q e => by
    by_cases h : y = x
    · subst h
      rw [List.getElem?_set_self hx] at e
      cases Option.some.inj e
      exact o
    · rw [List.getElem?_set_ne (Ne.symm h)] at e
      exact g.ok y q e
  anc := fun y hy => by
    rw [List.length_set] at hy
    obtain ⟨l, a⟩ := g.anc y hy
    exact a.moved hx m
/-- all on the floor -/
theorem Good.floor (rs : List Nat) : Good rs (List.replicate rs.length none) where
  len := by simp
  ok := fun x p e => by
    rw [List.getElem?_replicate] at e
    split at e
    · cases Option.some.inj e; trivial
    · cases e
  anc := fun x hx => ⟨[], .root (by
    rw [List.length_replicate] at hx
    rw [List.getElem?_replicate, if_pos hx])⟩
/-- put -/
theorem set_app {α : Type} : ∀ (f : List α) (x : Nat) (p : α), x < f.length → f.take x ++ [p] ++ f.drop (x + 1) = f.set x p
  | [], x, p, h => by simp at h
  | a :: f, 0, p, h => by simp
  | a :: f, x + 1, p, h => by
    have h' : x < f.length := by simpa using h
    have ih := set_app f x p h'
    simp only [List.take_succ_cons, List.drop_succ_cons, List.set_cons_succ, List.cons_append]
    rw [← ih]
/-- hangs that are let one after another; seen: the things that were hung before -/
def hangsOk (rs : List Nat) : List Nat → Forest → List Hang → Prop
  | _, _, [] => True
  | seen, f, (x, p) :: r => x < f.length ∧ x ∉ seen ∧ f[x]? ≠ some p ∧ okP rs x p ∧ mayGo f x p ∧ hangsOk rs (x :: seen) (f.set x p) r
def behindL : Forest → List Hang → Forest
  | f, [] => f
  | f, (x, p) :: r => behindL (f.set x p) r
theorem behindL_len : ∀ (hs : List Hang) (f : Forest), (behindL f hs).length = f.length
  | [], _ => rfl
  | (x, p) :: r, f => by
    show (behindL (f.set x p) r).length = _
    rw [behindL_len r, List.length_set]
theorem behindL_good {rs : List Nat} : ∀ (hs : List Hang) (f : Forest) (seen : List Nat), Good rs f → hangsOk rs seen f hs → Good rs (behindL f hs)
  | [], _, _, g, _ => g
  | (x, p) :: r, f, seen, g, h => by
    obtain ⟨h1, _, _, h2, h3, h4⟩ := h
    exact behindL_good r _ _ (g.move h1 h2 h3) h4
theorem behindL_app : ∀ (hs ks : List Hang) (f : Forest), behindL f (hs ++ ks) = behindL (behindL f hs) ks
  | [], _, _ => rfl
  | (x, p) :: r, ks, f => behindL_app r ks (f.set x p)
theorem hangsOk_app {rs : List Nat} : ∀ (hs ks : List Hang) (seen : List Nat) (f : Forest), hangsOk rs seen f hs → hangsOk rs ((hs.map (·.1)).reverse ++ seen) (behindL f hs) ks → hangsOk rs seen f (hs ++ ks)
  | [], _, _, _, _, h => h
  | (x, p) :: r, ks, seen, f, h1, h2 => by
    obtain ⟨a, b, c, d, e, g⟩ := h1
    refine ⟨a, b, c, d, e, hangsOk_app r ks _ _ g ?_⟩
    have e1 : (((x, p) :: r).map (·.1)).reverse ++ seen = (r.map (·.1)).reverse ++ (x :: seen) := by simp
    rw [e1] at h2
    exact h2
end KJ
set_option maxHeartbeats 4000000
namespace KJ
open PySem PySem.Spec PyProof.Rows L2
structure Txt (mg : Str → Option Value) (t1 t2 : Tok) : Prop where
  isinstance : mg "isinstance" = none
  int : mg "int" = none
  bool : mg "bool" = none
  tuple : mg "tuple" = none
  len : mg "len" = none
  enumerate : mg "enumerate" = none
  range : mg "range" = none
  all : mg "all" = none
  str : mg "str" = none
  max : mg "max" = none
  min : mg "min" = none
  list : mg "list" = none
  MOST_THINGS : mg "MOST_THINGS" = some (.int 24 t1)
  MOST_ROOMS : mg "MOST_ROOMS" = some (.int 4 t2)
abbrev FunT (K : PySem.W.Frag) (x : Str) (st : Stmt) (f : Addr) (fd : FuncData) : Prop := Fun K x x st f fd
section
variable {P : Program} {w : World} {K : PySem.W.Frag} {mg : Str → Option Value} {base : Heap} {t1 t2 : Tok} {f : Addr} {fd : FuncData}
/-! ### is_whole -/
def sp_is_whole : Sp := fun vs H Q _ => ∃ i : Int, vs = [.int i] ∧ Q (.bl true) H
theorem ok_is_whole (T : Txt mg t1 t2) (F : FunT K "is_whole" s_is_whole f fd) : FnOk P w K mg base CX0 1 f fd ["value"] sp_is_whole := by
  refine F.ok sc_is_whole (fun vs H Q E h => ?_) (fun cdv A outer s H vs Q E hr h => ?_)
  · obtain ⟨i, rfl, _⟩ := h
    rfl
  · obtain ⟨i, rfl, q⟩ := h
    refine ⟨_, (pss_one (ps_ret (pe_and (pe_callB call_isi (by rfl) T.isinstance (by decide +kernel) (pa_cons (pv 0) (pa_cons (pe_bltn (v := .ty "int") (u := .type "int") (by rfl) T.int (by decide +kernel) rfl) pa_nil))) (pe_one (pe_not (pe_callB call_isi (by rfl) T.isinstance (by decide +kernel) (pa_cons (pv 0) (pa_cons (pe_bltn (v := .ty "bool") (u := .type "bool") (by rfl) T.bool (by decide +kernel) rfl) pa_nil)))))))), ?_⟩
    refine ⟨_, rfl, .int i, .ty "int", .type "int", .type "int", true, rfl, .ty _, .base (.int i), kit_ty (by decide +kernel), true, rfl, iteT ?_⟩
    refine ⟨_, rfl, .int i, .ty "bool", .type "int", .type "bool", false, rfl, .ty _, .base (.int i), kit_ty (by decide +kernel), false, rfl, ?_⟩
    exact q

theorem iteD {c A B : Prop} [Decidable c] (h : c) (a : A) : if decide c = true then A else B := by
  rw [decide_eq_true h]
  exact iteT a
theorem iteDF {c A B : Prop} [Decidable c] (h : ¬ c) (b : B) : if decide c = true then A else B := by
  rw [decide_eq_false h]
  exact iteF b
theorem small24 {n : Nat} (h : n ≤ 24) : n ≤ sizeLine := Nat.le_trans h (by decide)
theorem r62 {n : Nat} (h : n ≤ 100000) : -(2 ^ 62) ≤ (n : Int) ∧ (n : Int) < 2 ^ 62 := by
  refine ⟨by omega, ?_⟩
  have : (2 : Int) ^ 62 = 4611686018427387904 := by decide
  omega
theorem rd_at {rs : List Nat} {i m : Nat} (h : rs[i]? = some m) : (rs.map fun n : Nat => V.int (n : Int))[i]? = some (.int (m : Int)) := by
  rw [List.getElem?_map, h]
  rfl
structure RsOk (rs : List Nat) : Prop where
  len : rs.length ≤ 24
  le4 : ∀ (i m : Nat), rs[i]? = some m → m ≤ 4
/-! ### made_rooms -/
def sp_made_rooms : Sp := fun vs H Q _ => ∃ (x : V) (rs : List Nat), vs = [x] ∧ Rp H x (rd rs) ∧ RsOk rs ∧ ∀ H', Same H H' → Q x H'
theorem ok_made_rooms (T : Txt mg t1 t2) (c_is_whole : Cal P w K mg base 1 "is_whole" sp_is_whole) (F : FunT K "made_rooms" s_made_rooms f fd) : FnOk P w K mg base CX0 2 f fd ["thing"] sp_made_rooms := by
  refine F.ok sc_made_rooms (fun vs H Q E h => ?_) (fun cdv A outer s H vs Q E hr h => ?_)
  · obtain ⟨x, rs, rfl, _⟩ := h
    rfl
  · obtain ⟨x, rs, rfl, hx, ok, q⟩ := h
    obtain ⟨a, rfl, ha⟩ := rd_inv hx
    refine ⟨_, (pss_cons (ps_if (pt_not (pt_val (pe_callB call_isi (by rfl) T.isinstance (by decide +kernel) (pa_cons (pv 0) (pa_cons (pe_bltn (v := .ty "tuple") (u := .type "tuple") (by rfl) T.tuple (by decide +kernel) rfl) pa_nil))))) (pss_one ps_never) pss_nil)
      (pss_cons (ps_if (pt_cmpR op_gt (pe_callB call_len_seq (by rfl) T.len (by decide +kernel) (pa_cons (pv 0) pa_nil)) (pe_glob (v := .int 24) rfl T.MOST_THINGS ⟨_, rfl⟩) (nomark _)) (pss_one ps_never) pss_nil)
      (pss_cons (ps_for PassesOwn.never rfl (pi_enumT (by rfl) T.enumerate (pa_cons (pv 0) pa_nil)) (pg_tup rfl (pgs_cons (pg_name (i := 1) sc_made_rooms.nd rfl (Or.inl rfl)) (pgs_cons (pg_name (i := 2) sc_made_rooms.nd rfl (Or.inl rfl)) pgs_nil))) (pss_one (ps_if (PW.pt (pw_or (pt_not (pt_val (pe_c c_is_whole hr (by decide) rfl (pa_cons (pv 2) pa_nil)))) (pw_or1 (pt_not (pt_chain op_le op_le pe_int (pv 2) (pe_glob (v := .int 4) rfl T.MOST_ROOMS ⟨_, rfl⟩)))))) (pss_one ps_never) pss_nil)))
      (pss_one (ps_ret (pv 0)))))), ?_⟩
    refine ⟨_, rfl, _, .ty "tuple", .type "tuple", .type "tuple", true, rfl, .ty _, .base (.tup ha), kit_ty (by decide +kernel), true, rfl, iteF ?_⟩
    refine ⟨_, rfl, a, _, rfl, .inr (SqT.of ha), _, _, rfl, rfl, _, rfl, iteDF (by rw [List.length_map]; have := ok.len; omega) ?_⟩
    refine ⟨_, rfl, a, _, rfl, SqT.of ha, for_it walk_enumT (fun i σ H' => ∃ y1 y2, σ = [some (.ref a), y1, y2] ∧ Same H H') ⟨none, none, rfl, Same.refl _⟩ (fun i σ H' _ ⟨_, _, _, sm⟩ => SqT.of (sm _ _ ha)) ?_ ?_⟩
    · rintro i x σ H1 H2 hi ⟨y1, y2, rfl, sm⟩ ⟨p, x1, x2, rfl, np, rfl, e1, e2⟩
      have hi' : i < rs.length := by rw [List.length_map] at hi; exact hi
      have e3 := (rd_at (List.getElem?_eq_getElem hi')).symm.trans e2
      cases Option.some.inj e1
      cases Option.some.inj e3
      have h4 := ok.le4 i _ (List.getElem?_eq_getElem hi')
      refine ⟨p, _, rfl, .inl (.inl upd_same), rfl, _, _, rfl, _, [], rfl, rfl, ?_⟩
      refine ⟨_, rfl, _, rfl, true, rfl, iteF ?_⟩
      refine ⟨_, rfl, _, _, rfl, rfl, _, rfl, iteD (by omega) ⟨_, _, rfl, rfl, _, rfl, iteNS (by omega) ?_⟩⟩
      exact ⟨_, _, rfl, sm.trans (same_new np)⟩
    · rintro σ H1 ⟨y1, y2, rfl, sm⟩
      exact ⟨_, rfl, q _ sm⟩

theorem iteNT {c A B : Prop} [Decidable c] (hc : ¬ c) (h : A) : if (!decide c) = true then A else B := by
  rw [decide_eq_false hc]
  exact iteT h
theorem fd_inv {H : Hp} {v : V} {g : Forest} (h : Rp H v (fod g)) : ∃ a xs, v = .ref a ∧ H a = some (.tup xs) ∧ RpA H xs (g.map pd) ∧ xs.length = g.length := by
  obtain ⟨a, xs, e, h1, h2⟩ := Rp.tup_inv h
  exact ⟨a, xs, e, h1, h2, by rw [h2.len, List.length_map]⟩
theorem fd_at {H : Hp} {xs : List V} {g : Forest} {i : Nat} {p : Place} (h : RpA H xs (g.map pd)) (e : g[i]? = some p) : ∃ y, xs[i]? = some y ∧ Rp H y (pd p) :=
  h.get (by rw [List.getElem?_map, e]; rfl)
/-! ### is_rooms -/
def sp_is_rooms : Sp := fun vs H Q _ => ∃ (x : V) (rs : List Nat), vs = [x] ∧ Rp H x (rd rs) ∧ RsOk rs ∧ ∀ H', Same H H' → Q (.bl true) H'
theorem ok_is_rooms (T : Txt mg t1 t2) (c_is_whole : Cal P w K mg base 1 "is_whole" sp_is_whole) (F : FunT K "is_rooms" s_is_rooms f fd) : FnOk P w K mg base CX0 2 f fd ["thing"] sp_is_rooms := by
  refine F.ok sc_is_rooms (fun vs H Q E h => ?_) (fun cdv A outer s H vs Q E hr h => ?_)
  · obtain ⟨x, rs, rfl, _⟩ := h
    rfl
  · have hu64 := hu64_of hr
    obtain ⟨x, rs, rfl, hx, ok, q⟩ := h
    obtain ⟨a, rfl, ha⟩ := rd_inv hx
    refine ⟨_, (pss_cons (ps_if (PW.pt (pw_or (pt_not (pt_val (pe_callB call_isi (by rfl) T.isinstance (by decide +kernel) (pa_cons (pv 0) (pa_cons (pe_bltn (v := .ty "tuple") (u := .type "tuple") (by rfl) T.tuple (by decide +kernel) rfl) pa_nil))))) (pw_or1 (pt_cmpR op_gt (pe_callB call_len_seq (by rfl) T.len (by decide +kernel) (pa_cons (pv 0) pa_nil)) (pe_glob (v := .int 24) rfl T.MOST_THINGS ⟨_, rfl⟩) (nomark _))))) (pss_one (ps_ret pe_bl)) pss_nil)
      (pss_one (ps_ret (pe_cmpR (r := rEqD K) (op_eqD hu64) (pe_lc (own := [("many", 1)]) (g := gName 1) (by rfl) sc_is_rooms.nd (pi_tup (pv 0)) (blkOk_by (own := [("many", 1)]) (N := N_is_rooms) (sc := defScope s_is_rooms) (by decide +kernel)) (fun _ _ _ _ _ => (pg_name (i := 1) sc_is_rooms.nd rfl (Or.inl rfl))) (fun _ _ _ _ _ => (pts_one (PW.pt (pw_or (pt_not (pt_val (pe_c c_is_whole hr (by decide) rfl (pa_cons (pv 1) pa_nil)))) (pw_or1 (pt_not (pt_chain op_le op_le pe_int (pv 1) (pe_glob (v := .int 4) rfl T.MOST_ROOMS ⟨_, rfl⟩)))))))) (fun _ _ _ _ _ => (pv 1))) (pe_lst pa_nil) (nomark _))))), ?_⟩
    refine ⟨_, rfl, _, .ty "tuple", .type "tuple", .type "tuple", true, rfl, .ty _, .base (.tup ha), kit_ty (by decide +kernel), true, rfl, iteF ?_⟩
    refine ⟨_, rfl, a, _, rfl, .inr (SqT.of ha), _, _, rfl, rfl, _, rfl, iteDF (by rw [List.length_map]; have := ok.len; omega) ?_⟩
    refine ⟨_, rfl, a, rfl, ⟨_, SqT.of ha⟩, fun D nD => lc_tup (xs := rs.map fun n : Nat => V.int (n : Int)) (fun i H' => Same H H' ∧ H' D = some (.lst [])) ⟨same_new nD, upd_same⟩ (fun i H' _ h => SqT.of (h.1 _ _ ha)) ?_ ?_⟩
    · rintro i x H1 e ⟨sm, eD⟩
      obtain ⟨m, em, rfl⟩ : ∃ m, rs[i]? = some m ∧ x = .int (m : Int) := by
        rw [List.getElem?_map] at e
        cases z : rs[i]? with
        | none => rw [z] at e; cases e
        | some m => rw [z] at e; exact ⟨m, rfl, (Option.some.inj e).symm⟩
      have h4 := ok.le4 i _ em
      refine ⟨rfl, ?_⟩
      refine ⟨_, rfl, _, rfl, true, rfl, iteF ?_⟩
      refine ⟨_, rfl, _, _, rfl, rfl, _, rfl, iteD (by omega) ⟨_, _, rfl, rfl, _, rfl, iteNS (by omega) ?_⟩⟩
      exact ⟨sm, eD⟩
    · rintro H1 ⟨sm, eD⟩
      refine ⟨Nat.zero_le _, fun p np => ?_⟩
      have nDp : D ≠ p := ne_of_none eD np
      refine ⟨.list [], .list [], Rp.dp (.lst (by rw [upd_ne nDp]; exact eD) .nil), Rp.dp (.lst upd_same .nil), by rfl, by rfl, ?_⟩
      exact q _ (sm.trans (same_new np))
/-! ### is_place -/
def sp_is_place : Sp := fun vs H Q _ => ∃ (xr v : V) (rs : List Nat) (x : Nat) (p : Place), vs = [xr, .int (x : Int), v] ∧ Rp H xr (rd rs) ∧ Rp H v (pd p) ∧ okP rs x p ∧ Q (.bl true) H
theorem ok_is_place (T : Txt mg t1 t2) (c_is_whole : Cal P w K mg base 1 "is_whole" sp_is_whole) (F : FunT K "is_place" s_is_place f fd) : FnOk P w K mg base CX0 2 f fd ["rooms", "x", "place"] sp_is_place := by
  refine F.ok sc_is_place (fun vs H Q E h => ?_) (fun cdv A outer s H vs Q E hr h => ?_)
  · obtain ⟨xr, v, rs, x, p, rfl, _⟩ := h
    rfl
  · obtain ⟨xr, v, rs, x, p, rfl, hx, hv, ok, q⟩ := h
    obtain ⟨a, rfl, ha⟩ := rd_inv hx
    refine ⟨_, (pss_cons (ps_if (pt_cmpR op_isN (pv 2) pe_non (nomark _)) (pss_one (ps_ret pe_bl)) pss_nil)
      (pss_cons (ps_if (PW.pt (pw_or (pt_not (pt_val (pe_callB call_isi (by rfl) T.isinstance (by decide +kernel) (pa_cons (pv 2) (pa_cons (pe_bltn (v := .ty "tuple") (u := .type "tuple") (by rfl) T.tuple (by decide +kernel) rfl) pa_nil))))) (pw_or (pt_cmpR op_ne (pe_callB call_len_seq (by rfl) T.len (by decide +kernel) (pa_cons (pv 2) pa_nil)) pe_int (nomark _)) (pw_or (pt_not (pt_val (pe_c c_is_whole hr (by decide) rfl (pa_cons (pe_ix (r := rIxT K) ix_tup (pv 2) pe_int (fun _ _ => rfl)) pa_nil)))) (pw_or1 (pt_not (pt_val (pe_c c_is_whole hr (by decide) rfl (pa_cons (pe_ix (r := rIxT K) ix_tup (pv 2) pe_int (fun _ _ => rfl)) pa_nil))))))))) (pss_one (ps_ret pe_bl)) pss_nil)
      (pss_cons (ps_asg (pv 2) (pg_tup rfl (pgs_cons (pg_name (i := 3) sc_is_place.nd rfl (Or.inl rfl)) (pgs_cons (pg_name (i := 4) sc_is_place.nd rfl (Or.inl rfl)) pgs_nil))))
      (pss_one (ps_ret (pe_and (pe_chain op_le op_lt pe_int (pv 3) (pe_callB call_len_seq (by rfl) T.len (by decide +kernel) (pa_cons (pv 0) pa_nil))) (pe_and (pe_cmpR op_ne (pv 3) (pv 1) (nomark _)) (pe_one (pe_chain op_le op_lt pe_int (pv 4) (pe_ix (r := rIxT K) ix_tup (pv 0) (pv 3) (fun _ _ => rfl))))))))))), ?_⟩
    cases p with
    | none =>
      cases pd_none hv
      exact ⟨_, rfl, rfl, _, rfl, iteD rfl q⟩
    | some hr' =>
      obtain ⟨h, r⟩ := hr'
      obtain ⟨b, rfl, hb⟩ := pd_some hv
      obtain ⟨nx, m, em, lt⟩ := ok
      have hlt := (List.getElem?_eq_some_iff.mp em).1
      refine ⟨_, rfl, rfl, _, rfl, iteDF (by intro z; cases z) ?_⟩
      refine ⟨_, rfl, _, .ty "tuple", .type "tuple", .type "tuple", true, rfl, .ty _, .base (.tup hb), kit_ty (by decide +kernel), true, rfl, iteF ?_⟩
      refine ⟨_, rfl, b, _, rfl, .inr (SqT.of hb), rfl, _, rfl, iteNS rfl ?_⟩
      refine ⟨_, rfl, b, _, 0, _, rfl, rfl, SqT.of hb, atI_nat (j := 0) rfl, _, rfl, true, rfl, iteF ?_⟩
      refine ⟨_, rfl, b, _, 1, _, rfl, rfl, SqT.of hb, atI_nat (j := 1) rfl, _, rfl, true, rfl, iteF ?_⟩
      refine ⟨_, rfl, b, _, rfl, SqT.of hb, rfl, _, _, rfl, _, _, rfl, rfl, ?_⟩
      refine ⟨_, rfl, _, _, rfl, rfl, _, rfl, iteD (by omega) ⟨_, rfl, a, _, rfl, .inr (SqT.of ha), _, _, rfl, rfl, _, rfl, iteD (by rw [List.length_map]; omega) ?_⟩⟩
      refine ⟨_, rfl, _, rfl, rfl, _, rfl, iteNT (by intro z; have := V.int.inj z; omega) ?_⟩
      refine ⟨_, rfl, _, _, rfl, rfl, _, rfl, iteD (by omega) ⟨_, rfl, _, rfl, a, _, (h : Int), _, rfl, rfl, SqT.of ha, atI_nat (rd_at em), _, _, rfl, rfl, ?_⟩⟩
      show Q (V.bl (decide ((r : Int) < (m : Int)))) H
      rw [decide_eq_true (by omega)]
      exact q
/-! ### lies_in_itself -/
def sp_lies : Sp := fun vs H Q _ => ∃ (v : V) (g : Forest) (x : Nat) (l : List Nat), vs = [v, .int (x : Int)] ∧ Rp H v (fod g) ∧ g.length ≤ 24 ∧ Anc g x l ∧ Q (.bl false) H
theorem ok_lies_in_itself (T : Txt mg t1 t2) (F : FunT K "lies_in_itself" s_lies_in_itself f fd) : FnOk P w K mg base CX0 1 f fd ["forest", "x"] sp_lies := by
  refine F.ok sc_lies_in_itself (fun vs H Q E h => ?_) (fun cdv A outer s H vs Q E hr h => ?_)
  · obtain ⟨v, g, x, l, rfl, _⟩ := h
    rfl
  · obtain ⟨v, g, x, l, rfl, hv, hl, an, q⟩ := h
    obtain ⟨a, xs, rfl, ha, hxs, hlen⟩ := fd_inv hv
    refine ⟨_, (pss_cons (ps_set (i := 2) sc_lies_in_itself.nd rfl (Or.inl rfl) (pv 1))
      (pss_cons (ps_for PassesOwn.never rfl (pi_range1 (by rfl) T.range (pa_cons (pe_callB call_len_seq (by rfl) T.len (by decide +kernel) (pa_cons (pv 0) pa_nil)) pa_nil)) (pg_name (i := 3) sc_lies_in_itself.nd rfl (Or.inl rfl)) (pss_cons (ps_if (pt_cmpR op_isN (pe_ix (r := rIxT K) ix_tup (pv 0) (pv 2) (fun _ _ => rfl)) pe_non (nomark _)) (pss_one (ps_ret pe_bl)) pss_nil)
      (pss_cons (ps_set (i := 2) sc_lies_in_itself.nd rfl (Or.inl rfl) (pe_ix (r := rIxT K) ix_tup (pe_ix (r := rIxT K) ix_tup (pv 0) (pv 2) (fun _ _ => rfl)) pe_int (fun _ _ => rfl)))
      (pss_one (ps_if (pt_cmpR op_eq (pv 2) (pv 1) (nomark _)) (pss_one (ps_ret pe_bl)) pss_nil)))))
      (pss_one (ps_ret pe_bl)))), ?_⟩
    have hb := r62 (n := xs.length) (by omega)
    refine ⟨_, rfl, _, rfl, a, _, rfl, .inr (SqT.of ha), _, rfl, hb.1, hb.2, for_range (fun i σ H' => ∃ (here : Nat) (y3 : Option V), σ = [some (.ref a), some (.int (x : Int)), some (.int (here : Int)), y3] ∧ (x :: l)[i]? = some here ∧ H' = H) ⟨x, none, rfl, rfl, rfl⟩ ?_ ?_⟩
    · rintro i σ H1 hi ⟨here, y3, rfl, eh, rfl⟩
      have an' := an.at eh
      generalize hd' : l.drop i = l' at an'
      cases an' with
      | root e =>
        obtain ⟨y, ey, ry⟩ := fd_at hxs e
        cases pd_none ry
        exact ⟨_, rfl, _, rfl, a, _, _, _, rfl, rfl, SqT.of ha, atI_nat ey, rfl, _, rfl, iteD rfl q⟩
      | @step _ h r l2 e an2 =>
        obtain ⟨y, ey, ry⟩ := fd_at hxs e
        obtain ⟨b, rfl, hb⟩ := pd_some ry
        have eh2 : l[i]? = some h := by
          have z := congrArg (fun m : List Nat => m[0]?) hd'
          simp only [List.getElem?_drop, Nat.add_zero, List.getElem?_cons_zero] at z
          exact z
        have nx : h ≠ x := fun z => an.not_self (z ▸ List.mem_of_getElem? eh2)
        refine ⟨_, rfl, _, rfl, a, _, _, _, rfl, rfl, SqT.of ha, atI_nat ey, rfl, _, rfl, iteDF (by intro z; cases z) ?_⟩
        refine ⟨_, rfl, _, rfl, a, _, _, _, rfl, rfl, SqT.of ha, atI_nat ey, b, _, 0, _, rfl, rfl, SqT.of hb, atI_nat (j := 0) rfl, ?_⟩
        refine ⟨_, rfl, _, rfl, rfl, _, rfl, iteDF (by intro z; have := V.int.inj z; omega) ?_⟩
        exact ⟨h, _, rfl, by rw [List.getElem?_cons_succ]; exact eh2, rfl⟩
    · rintro σ H1 ⟨here, y3, rfl, _, rfl⟩
      exact q
/-! ### first_bad, first_ring, is_forest -/
def sp_first_bad : Sp := fun vs H Q _ => ∃ (xr v : V) (rs : List Nat) (g : Forest), vs = [xr, v] ∧ Rp H xr (rd rs) ∧ Rp H v (fod g) ∧ (∀ (x : Nat) (p : Place), g[x]? = some p → okP rs x p) ∧ ∀ H', Same H H' → Q .non H'
theorem ok_first_bad (T : Txt mg t1 t2) (c_is_place : Cal P w K mg base 2 "is_place" sp_is_place) (F : FunT K "first_bad" s_first_bad f fd) : FnOk P w K mg base CX0 3 f fd ["rooms", "forest"] sp_first_bad := by
  refine F.ok sc_first_bad (fun vs H Q E h => ?_) (fun cdv A outer s H vs Q E hr h => ?_)
  · obtain ⟨xr, v, rs, g, rfl, _⟩ := h
    rfl
  · obtain ⟨xr, v, rs, g, rfl, hx, hv, ok, q⟩ := h
    obtain ⟨a, xs, rfl, ha, hxs, hlen⟩ := fd_inv hv
    refine ⟨_, (pss_cons (ps_for PassesOwn.never rfl (pi_enumT (by rfl) T.enumerate (pa_cons (pv 1) pa_nil)) (pg_tup rfl (pgs_cons (pg_name (i := 2) sc_first_bad.nd rfl (Or.inl rfl)) (pgs_cons (pg_name (i := 3) sc_first_bad.nd rfl (Or.inl rfl)) pgs_nil))) (pss_one (ps_if (pt_not (pt_val (pe_c c_is_place hr (by decide) rfl (pa_cons (pv 0) (pa_cons (pv 2) (pa_cons (pv 3) pa_nil)))))) (pss_one (ps_ret (pv 2))) pss_nil)))
      (pss_one (ps_ret pe_non))), ?_⟩
    refine ⟨_, rfl, a, _, rfl, SqT.of ha, for_it walk_enumT (fun i σ H' => ∃ y1 y2, σ = [some xr, some (.ref a), y1, y2] ∧ Same H H') ⟨none, none, rfl, Same.refl _⟩ (fun i σ H' _ ⟨_, _, _, sm⟩ => SqT.of (sm _ _ ha)) ?_ ?_⟩
    · rintro i x σ H1 H2 hi ⟨y1, y2, rfl, sm⟩ ⟨p, x1, x2, rfl, np, rfl, e1, e2⟩
      cases Option.some.inj e1
      have e2' : xs[i]? = some x2 := e2
      obtain ⟨d, ed, rd'⟩ := hxs.getV e2'
      obtain ⟨pl, epl, rfl⟩ : ∃ pl, g[i]? = some pl ∧ d = pd pl := by
        rw [List.getElem?_map] at ed
        cases z : g[i]? with
        | none => rw [z] at ed; cases ed
        | some m => rw [z] at ed; exact ⟨m, rfl, (Option.some.inj ed).symm⟩
      have sm2 := sm.trans (same_new (o := .tup [V.int (i : Int), x2]) np)
      refine ⟨p, _, rfl, .inl (.inl upd_same), rfl, _, _, rfl, _, [], rfl, rfl, ?_⟩
      refine ⟨_, rfl, _, rfl, _, rfl, xr, x2, rs, i, pl, rfl, hx.mono sm2, rd'.mono sm2, ok _ _ epl, true, rfl, iteF ?_⟩
      exact ⟨_, _, rfl, sm2⟩
    · rintro σ H1 ⟨y1, y2, rfl, sm⟩
      exact q _ sm
def sp_first_ring : Sp := fun vs H Q _ => ∃ (v : V) (g : Forest), vs = [v] ∧ Rp H v (fod g) ∧ g.length ≤ 24 ∧ (∀ x, x < g.length → ∃ l, Anc g x l) ∧ Q .non H
theorem ok_first_ring (T : Txt mg t1 t2) (c_lies_in_itself : Cal P w K mg base 1 "lies_in_itself" sp_lies) (F : FunT K "first_ring" s_first_ring f fd) : FnOk P w K mg base CX0 2 f fd ["forest"] sp_first_ring := by
  refine F.ok sc_first_ring (fun vs H Q E h => ?_) (fun cdv A outer s H vs Q E hr h => ?_)
  · obtain ⟨v, g, rfl, _⟩ := h
    rfl
  · obtain ⟨v, g, rfl, hv, hl, an, q⟩ := h
    obtain ⟨a, xs, rfl, ha, hxs, hlen⟩ := fd_inv hv
    refine ⟨_, (pss_cons (ps_for PassesOwn.never rfl (pi_range1 (by rfl) T.range (pa_cons (pe_callB call_len_seq (by rfl) T.len (by decide +kernel) (pa_cons (pv 0) pa_nil)) pa_nil)) (pg_name (i := 1) sc_first_ring.nd rfl (Or.inl rfl)) (pss_one (ps_if (pt_val (pe_c c_lies_in_itself hr (by decide) rfl (pa_cons (pv 0) (pa_cons (pv 1) pa_nil)))) (pss_one (ps_ret (pv 1))) pss_nil)))
      (pss_one (ps_ret pe_non))), ?_⟩
    have hb := r62 (n := xs.length) (by omega)
    refine ⟨_, rfl, a, _, rfl, .inr (SqT.of ha), _, rfl, hb.1, hb.2, for_range (fun i σ H' => ∃ (y3 : Option V), σ = [some (.ref a), y3] ∧ H' = H) ⟨none, rfl, rfl⟩ ?_ ?_⟩
    · rintro i σ H1 hi ⟨y3, rfl, rfl⟩
      have hi' : i < g.length := by rw [← hlen]; simpa using hi
      obtain ⟨l, al⟩ := an i hi'
      refine ⟨_, rfl, _, rfl, .ref a, g, i, l, ?_, hv, hl, al, false, rfl, iteF ?_⟩
      · simp
      · exact ⟨_, rfl, rfl⟩
    · rintro σ H1 ⟨y3, rfl, rfl⟩
      exact q
def sp_is_forest : Sp := fun vs H Q _ => ∃ (xr v : V) (rs : List Nat) (g : Forest), vs = [xr, v] ∧ Rp H xr (rd rs) ∧ Rp H v (fod g) ∧ RsOk rs ∧ Good rs g ∧ ∀ H', Same H H' → Q (.bl true) H'
theorem ok_is_forest (T : Txt mg t1 t2) (c_is_rooms : Cal P w K mg base 2 "is_rooms" sp_is_rooms) (c_first_bad : Cal P w K mg base 3 "first_bad" sp_first_bad) (c_first_ring : Cal P w K mg base 2 "first_ring" sp_first_ring)
    (F : FunT K "is_forest" s_is_forest f fd) : FnOk P w K mg base CX0 4 f fd ["rooms", "forest"] sp_is_forest := by
  refine F.ok sc_is_forest (fun vs H Q E h => ?_) (fun cdv A outer s H vs Q E hr h => ?_)
  · obtain ⟨xr, v, rs, g, rfl, _⟩ := h
    rfl
  · obtain ⟨xr, v, rs, g, rfl, hx, hv, ok, gd, q⟩ := h
    obtain ⟨a, rfl, ha⟩ := rd_inv hx
    obtain ⟨b, xs, rfl, hb, hxs, hlen⟩ := fd_inv hv
    have l24 : g.length ≤ 24 := by rw [gd.len]; exact ok.len
    refine ⟨_, (pss_cons (ps_if (PW.pt (pw_or (pt_not (pt_val (pe_c c_is_rooms hr (by decide) rfl (pa_cons (pv 0) pa_nil)))) (pw_or (pt_not (pt_val (pe_callB call_isi (by rfl) T.isinstance (by decide +kernel) (pa_cons (pv 1) (pa_cons (pe_bltn (v := .ty "tuple") (u := .type "tuple") (by rfl) T.tuple (by decide +kernel) rfl) pa_nil))))) (pw_or1 (pt_cmpR op_ne (pe_callB call_len_seq (by rfl) T.len (by decide +kernel) (pa_cons (pv 1) pa_nil)) (pe_callB call_len_seq (by rfl) T.len (by decide +kernel) (pa_cons (pv 0) pa_nil)) (nomark _)))))) (pss_one (ps_ret pe_bl)) pss_nil)
      (pss_one (ps_ret (pe_and (pe_cmpR op_isN (pe_c c_first_bad hr (by decide) rfl (pa_cons (pv 0) (pa_cons (pv 1) pa_nil))) pe_non (nomark _)) (pe_one (pe_cmpR op_isN (pe_c c_first_ring hr (by decide) rfl (pa_cons (pv 1) pa_nil)) pe_non (nomark _))))))), ?_⟩
    refine ⟨_, rfl, _, rs, rfl, hx, ok, fun H1 s1 => ⟨true, rfl, iteF ?_⟩⟩
    refine ⟨_, rfl, _, .ty "tuple", .type "tuple", .type "tuple", true, rfl, .ty _, .base (.tup (s1 _ _ hb)), kit_ty (by decide +kernel), true, rfl, iteF ?_⟩
    refine ⟨_, rfl, b, _, rfl, .inr (SqT.of (s1 _ _ hb)), _, rfl, a, _, rfl, .inr (SqT.of (s1 _ _ ha)), rfl, _, rfl, iteNS (by rw [hlen, gd.len, List.length_map]) ?_⟩
    refine ⟨_, rfl, _, rfl, _, _, rs, g, rfl, hx.mono s1, hv.mono s1, gd.ok, fun H2 s2 => ⟨rfl, _, rfl, iteD rfl ?_⟩⟩
    exact ⟨_, rfl, _, g, rfl, hv.mono (s1.trans s2), l24, gd.anc, rfl, q _ (s1.trans s2)⟩
end
end KJ
set_option maxHeartbeats 4000000
/-! Texts: plain mathematics over code lists. -/
namespace KJ
open PySem PySem.Spec PyProof.Rows L2 TL
def mkS (l : List Nat) : Str := ⟨l.toArray⟩
theorem tl_mkS (l : List Nat) : tl (mkS l) = l := rfl
theorem mkS_len (l : List Nat) : (mkS l).length = l.length := by rw [len_tl, tl_mkS]
theorem mkS_eq {x : Str} {l : List Nat} (h : tl x = l) : x = mkS l := ext_tl (by rw [h, tl_mkS])
theorem mkS_tl (x : Str) : mkS (tl x) = x := mk_tl x
theorem mkS_inj {l m : List Nat} (h : mkS l = mkS m) : l = m := by
  have := congrArg tl h
  rwa [tl_mkS, tl_mkS] at this
def pwL : Place → List Nat
  | none => [45]
  | some (h, r) => numL h ++ 46 :: numL r
def hwL (h : Hang) : List Nat := numL h.1 ++ 58 :: pwL h.2
/-- words, each with a space ahead of it -/
def spL (ws : List (List Nat)) : List Nat := (ws.map (32 :: ·)).flatten
def rowL (n : Nat) (ws : List (List Nat)) : List Nat := numL n ++ spL ws ++ [10]
abbrev wBase : List Nat := [98, 97, 115, 101]
abbrev wOpen : List Nat := [111, 112, 101, 110]
abbrev wLay : List Nat := [108, 97, 121]
abbrev wShut : List Nat := [115, 104, 117, 116]
def baseL (f : Forest) : List Nat := rowL 0 (wBase :: f.map pwL)
def openL (n : Nat) (hs : List Hang) : List Nat := rowL n (wOpen :: hs.map hwL)
def layL (n : Nat) (f : Forest) : List Nat := rowL n (wLay :: f.map pwL)
def shutL (n : Nat) : List Nat := rowL n [wShut]
theorem spL_cons (w : List Nat) (ws : List (List Nat)) : spL (w :: ws) = 32 :: (w ++ spL ws) := rfl
theorem spL_nil : spL [] = [] := rfl
theorem joinL_nil : ∀ ps : List (List Nat), joinL [] ps = ps.flatten
  | [] => rfl
  | [p] => by show p = [p].flatten; simp
  | p :: q :: r => by
    show p ++ ([] ++ joinL [] (q :: r)) = _
    rw [joinL_nil (q :: r), List.nil_append]
    rfl
theorem joinL_sp : ∀ (a : List Nat) (ws : List (List Nat)), joinL [32] (a :: ws) = a ++ spL ws
  | a, [] => by show a = a ++ []; rw [List.append_nil]
  | a, w :: ws => by
    show a ++ ([32] ++ joinL [32] (w :: ws)) = _
    rw [joinL_sp w ws]
    rfl
/-- the sizes -/
def okw : Place → Prop
  | none => True
  | some (h, r) => h < 100 ∧ r < 10
theorem pwL_len {p : Place} (h : okw p) : (pwL p).length ≤ 5 := by
  cases p with
  | none => show 1 ≤ 5; omega
  | some q =>
    obtain ⟨a, r⟩ := q
    obtain ⟨h1, h2⟩ := h
    have l1 := numL_len (n := a) (k := 2) (by omega) (by omega)
    have l2 := numL_len (n := r) (k := 1) (by omega) (by omega)
    show (numL a ++ 46 :: numL r).length ≤ 5
    rw [List.length_append, List.length_cons]
    omega
theorem hwL_len {h : Hang} (h1 : h.1 < 100) (h2 : okw h.2) : (hwL h).length ≤ 8 := by
  have l1 := numL_len (n := h.1) (k := 2) (by omega) (by omega)
  have l2 := pwL_len h2
  show (numL h.1 ++ 58 :: pwL h.2).length ≤ 8
  rw [List.length_append, List.length_cons]
  omega
theorem spL_len : ∀ {ws : List (List Nat)} {k : Nat}, (∀ w ∈ ws, w.length ≤ k) → (spL ws).length ≤ (k + 1) * ws.length
  | [], _, _ => Nat.zero_le _
  | w :: ws, k, h => by
    have ih := spL_len (ws := ws) (k := k) fun v hv => h v (List.mem_cons_of_mem _ hv)
    have h0 := h w (List.mem_cons_self ..)
    rw [spL_cons, List.length_cons, List.length_append, List.length_cons, Nat.mul_succ]
    omega
theorem okP_okw {rs : List Nat} {x : Nat} {p : Place} (h : okP rs x p) (l : rs.length ≤ 24) (r4 : ∀ (i m : Nat), rs[i]? = some m → m ≤ 4) : okw p := by
  cases p with
  | none => trivial
  | some q =>
    obtain ⟨a, r⟩ := q
    obtain ⟨_, m, em, lt⟩ := h
    have := (List.getElem?_eq_some_iff.mp em).1
    have := r4 _ _ em
    exact ⟨by omega, by omega⟩
theorem rowL_len {n : Nat} {ws : List (List Nat)} {k : Nat} (hn : n < 10000) (h : ∀ w ∈ ws, w.length ≤ k) : (rowL n ws).length ≤ 5 + (k + 1) * ws.length := by
  have l1 := numL_len (n := n) (k := 4) (by omega) (by omega)
  have l2 := spL_len h
  unfold rowL
  rw [List.length_append, List.length_append, List.length_singleton]
  omega
/-! numbers as texts -/
def num (n : Nat) : Str := Str.ofString (toString ((n : Nat) : Int))
theorem tl_num' (n : Nat) : tl (num n) = numL n := tl_num n
theorem num_mkS (n : Nat) : num n = mkS (numL n) := mkS_eq (tl_num n)
theorem lg {n : Nat} (h : n < 100000) : ((n : Nat) : Int).natAbs.log2 < 1920 := by
  have e : ((n : Nat) : Int).natAbs = n := by omega
  rw [e]
  by_cases z : n = 0
  · subst z; decide
  · exact (Nat.log2_lt z).mpr (Nat.lt_of_lt_of_le (Nat.lt_trans h (by decide : 100000 < 2 ^ 17)) (Nat.pow_le_pow_right (by decide) (by decide)))
theorem app_mkS (l m : List Nat) : mkS l ++ mkS m = mkS (l ++ m) := mkS_eq (by rw [tl_append, tl_mkS, tl_mkS])
theorem empty_mkS : Str.empty = mkS [] := rfl
theorem len_app (x y : Str) : (x ++ y).length = x.length + y.length := by rw [len_tl, len_tl, len_tl, tl_append, List.length_append]
theorem lit_dash : Str.ofString "-" = mkS [45] := by decide +kernel
theorem lit_dot : Str.ofString "." = mkS [46] := by decide +kernel
theorem lit_sp : Str.ofString " " = mkS [32] := by decide +kernel
theorem lit_col : Str.ofString ":" = mkS [58] := by decide +kernel
theorem lit_nl : Str.ofString "\n" = mkS [10] := by decide +kernel
theorem lit_nil : Str.ofString "" = mkS [] := by decide +kernel
theorem lit_base0 : Str.ofString "0 base" = mkS (48 :: 32 :: wBase) := by decide +kernel
theorem lit_open : Str.ofString " open" = mkS (32 :: wOpen) := by decide +kernel
theorem lit_lay : Str.ofString " lay" = mkS (32 :: wLay) := by decide +kernel
theorem lit_shut : Str.ofString " shut\n" = mkS (32 :: (wShut ++ [10])) := by decide +kernel
theorem num0 : numL 0 = [48] := by decide +kernel
theorem join_nil (ls : List (List Nat)) : Txt.join (mkS []) (ls.map mkS) = mkS ls.flatten := by
  refine mkS_eq ?_
  rw [join_eq, tl_join, tl_mkS, joinL_nil, List.map_map]
  have e : (tl ∘ mkS) = id := rfl
  rw [e, List.map_id]
end KJ
set_option maxHeartbeats 4000000
namespace KJ
open PySem PySem.Spec PyProof.Rows L2 TL
section
variable {P : Program} {w : World} {K : PySem.W.Frag} {mg : Str → Option Value} {base : Heap} {t1 t2 : Tok} {f : Addr} {fd : FuncData}
/-! ### around -/
def sp_around : Sp := fun vs H Q _ => ∃ (v : V) (g : Forest) (x : Nat) (l : List Nat), vs = [v, .int (x : Int)] ∧ Rp H v (fod g) ∧ g.length ≤ 24 ∧ Anc g x l ∧
  ∀ H' p, Same H H' → H' p = some (.tup (l.map fun n : Nat => V.int (n : Int))) → Q (.ref p) H'
theorem ok_around (T : Txt mg t1 t2) (F : FunT K "around" s_around f fd) : FnOk P w K mg base CX0 1 f fd ["forest", "x"] sp_around := by
  refine F.ok sc_around (fun vs H Q E h => ?_) (fun cdv A outer s H vs Q E hr h => ?_)
  · obtain ⟨v, g, x, l, rfl, _⟩ := h
    rfl
  · obtain ⟨v, g, x, l, rfl, hv, hl, an, q⟩ := h
    obtain ⟨a, xs, rfl, ha, hxs, hlen⟩ := fd_inv hv
    refine ⟨_, (pss_cons (ps_set (i := 2) sc_around.nd rfl (Or.inl rfl) (pe_lst pa_nil))
      (pss_cons (ps_set (i := 3) sc_around.nd rfl (Or.inl rfl) (pe_ix (r := rIxT K) ix_tup (pv 0) (pv 1) (fun _ _ => rfl)))
      (pss_cons (ps_while PassesOwn.never (pt_cmpR op_notN (pv 3) pe_non (nomark _)) (pss_cons (ps_expr (pe_bm PySem.F.plainAttrs_list PySem.F.slot_list_append PySem.F.type_list_append mt_append (pv 2) (pa_cons (pe_ix (r := rIxT K) ix_tup (pv 3) pe_int (fun _ _ => rfl)) pa_nil)))
      (pss_one (ps_set (i := 3) sc_around.nd rfl (Or.inl rfl) (pe_ix (r := rIxT K) ix_tup (pv 0) (pe_ix (r := rIxT K) ix_tup (pv 3) pe_int (fun _ _ => rfl)) (fun _ _ => rfl))))))
      (pss_one (ps_ret (pe_callTy call_tuple_of (by rfl) T.tuple (by decide +kernel) (pa_cons (pv 2) pa_nil))))))), ?_⟩
    refine ⟨Nat.zero_le _, fun o no => ?_⟩
    have s1 : Same H (upd H o (.lst [])) := same_new no
    obtain ⟨p0, e0⟩ : ∃ p0, g[x]? = some p0 := ⟨_, List.getElem?_eq_getElem an.lt⟩
    obtain ⟨y0, ey0, ry0⟩ := fd_at hxs e0
    refine ⟨_, rfl, _, rfl, a, _, _, _, rfl, rfl, SqT.of (s1 _ _ ha), atI_nat ey0, ?_⟩
    refine ⟨fun m σ H' => ∃ (i : Nat) (y : V) (here : Nat) (p : Place), m = l.length - i ∧ i ≤ l.length ∧ σ = [some (.ref a), some (.int (x : Int)), some (.ref o), some y] ∧ Same H H' ∧ H' o = some (.lst ((l.take i).map fun n : Nat => V.int (n : Int))) ∧
      (x :: l)[i]? = some here ∧ g[here]? = some p ∧ Rp H y (pd p), ⟨l.length, 0, y0, x, p0, rfl, Nat.zero_le _, rfl, s1, by rw [upd_same]; rfl, rfl, e0, ry0⟩, ?_⟩
    rintro m σ H1 ⟨i, y, here, p, rfl, hi, rfl, sm, eo, eh, ep, ry⟩
    have an' := an.at eh
    generalize hd' : l.drop i = l' at an'
    cases an' with
    | root e =>
      rw [ep] at e
      cases Option.some.inj e
      cases pd_none ry
      have ei : l.take i = l := by
        have z := List.take_append_drop i l
        rw [hd', List.append_nil] at z
        exact z
      rw [ei] at eo
      refine ⟨_, rfl, rfl, _, rfl, iteNS rfl ?_⟩
      exact ⟨_, rfl, o, _, rfl, .inl ⟨SqL.of eo, fun t nt => q _ t (sm.trans (same_new nt)) upd_same⟩⟩
    | @step _ h r l2 e an2 =>
      rw [ep] at e
      cases Option.some.inj e
      obtain ⟨b, rfl, hb⟩ := pd_some ry
      have eh2 : l[i]? = some h := by
        have z := congrArg (fun m : List Nat => m[0]?) hd'
        simp only [List.getElem?_drop, Nat.add_zero, List.getElem?_cons_zero] at z
        exact z
      have hlt := (List.getElem?_eq_some_iff.mp eh2).1
      obtain ⟨p2, e2⟩ : ∃ p2, g[h]? = some p2 := ⟨_, List.getElem?_eq_getElem an2.lt⟩
      obtain ⟨y2, ey2, ry2⟩ := fd_at hxs e2
      have l24 := an.len
      refine ⟨_, rfl, rfl, _, rfl, iteNT (by intro z; cases z) ?_⟩
      refine ⟨fun σ' H' => ∃ (y : V) (p : Place), σ' = [some (.ref a), some (.int (x : Int)), some (.ref o), some y] ∧ Same H H' ∧ H' o = some (.lst ((l.take (i + 1)).map fun n : Nat => V.int (n : Int))) ∧ g[h]? = some p ∧ Rp H y (pd p), ?_, ?_⟩
      · rintro σ' H' ⟨y', p', rfl, s', eo', e', r'⟩
        exact ⟨l.length - (i + 1), by omega, i + 1, y', h, p', rfl, hlt, rfl, s', eo', by rw [List.getElem?_cons_succ]; exact eh2, e', r'⟩
      · refine ⟨_, rfl, .inl ⟨rfl, _, .inl (.inl eo)⟩, _, rfl, b, _, 0, _, rfl, rfl, SqT.of (sm _ _ hb), atI_nat (j := 0) rfl, o, _, _, rfl, rfl, eo, ?_, ?_⟩
        · rw [List.length_map, List.length_take]
          exact small1000 (by omega)
        · have s2 : Same H (upd H1 o (.lst ((l.take i).map (fun n : Nat => V.int (n : Int)) ++ [V.int (h : Int)]))) := fun c u ec => by
            rw [upd_ne (ne_of_none ec no)]
            exact sm _ _ ec
          refine ⟨_, rfl, _, rfl, b, _, 0, _, rfl, rfl, SqT.of (s2 _ _ hb), atI_nat (j := 0) rfl, a, _, _, _, rfl, rfl, SqT.of (s2 _ _ ha), atI_nat ey2, ?_⟩
          refine ⟨y2, p2, rfl, s2, ?_, e2, ry2⟩
          rw [upd_same, List.take_add_one, eh2, List.map_append]
          rfl
/-! ### put -/
def sp_put : Sp := fun vs H Q _ => ∃ (a : Addr) (xs : List V) (x : Nat) (y : V), vs = [.ref a, .int (x : Int), y] ∧ H a = some (.tup xs) ∧ x < xs.length ∧ xs.length ≤ 1000 ∧
  ∀ H' p, Same H H' → H p = none → H' p = some (.tup (xs.set x y)) → Q (.ref p) H'
theorem cut_to {xs : List V} {x : Nat} (h : x < xs.length) : cutV xs none (some (x : Int)) = xs.take x := by
  unfold cutV
  rw [HT.sIx_none, HT.sIx_nat, List.drop_zero, Nat.sub_zero, Nat.min_eq_left (Nat.le_of_lt h)]
theorem cut_from {xs : List V} {x : Nat} (h : x ≤ xs.length) : cutV xs (some (x : Int)) none = xs.drop x := by
  unfold cutV
  rw [HT.sIx_none, HT.sIx_nat, Nat.min_eq_left h]
  exact List.take_of_length_le (by rw [List.length_drop]; exact Nat.le_refl _)
/-- forest[:x] + (place,) + forest[x + 1:] -/
theorem put_reads {H : Hp} {Q : VK} {σ : L2.St} {a : Addr} {xs : List V} {x : Nat} {y : V} (hσ : σ[0]? = some (some (.ref a))) (h1 : σ[1]? = some (some (.int (x : Int)))) (h2 : σ[2]? = some (some y)) (ha : H a = some (.tup xs)) (hx : x < xs.length) (hl : xs.length ≤ 1000)
    (q : ∀ H' p, Same H H' → H p = none → H' p = some (.tup (xs.set x y)) → Q (.ref p) H') :
    tOp (rCatA K) (tOp (rCatA K) (tSl (rSlA K) (tVar 0) tNoPart (tPart (tVar 1))) (tTup (tCons (tVar 2) tNil))) (tSl (rSlA K) (tVar 0) (tPart (tOp (rI0 fun i j => .int (i + j)) (tVar 1) (tC (.int 1)))) tNoPart) σ H Q := by
  refine ⟨_, hσ, _, h1, (x : Int), rfl, a, xs, rfl, SqT.of ha, fun hw => ?_, fun _ p1 n1 => ?_⟩
  · have e := hw.2
    rw [HT.sIx_nat] at e
    omega
  rw [cut_to hx]
  have s1 : Same H (upd H p1 (.tup (xs.take x))) := same_new n1
  refine ⟨_, h2, (by show 1 ≤ sizeLine; decide), fun p2 n2 => ?_⟩
  have s2 : Same H (upd (upd H p1 (.tup (xs.take x))) p2 (.tup [y])) := s1.trans (same_new n2)
  have n2' : H p2 = none := s1.free n2
  have key : ∀ (H3 : Hp) (c : Addr), Same H H3 → H c = none → H3 c = some (.tup (xs.take x ++ [y])) → tSl (rSlA K) (tVar 0) (tPart (tOp (rI0 fun i j => .int (i + j)) (tVar 1) (tC (.int 1)))) tNoPart σ H3 fun z H4 => rCatA K (.ref c) z H4 Q := by
    intro H3 c s3 nc ec
    have e1 : (x : Int) + 1 = ((x + 1 : Nat) : Int) := by omega
    refine ⟨_, hσ, _, h1, (x : Int), 1, rfl, rfl, _, rfl, ?_⟩
    rw [e1]
    refine ⟨a, xs, rfl, SqT.of (s3 _ _ ha), fun hw => ?_, fun _ p4 n4 => ?_⟩
    · have e := hw.1
      rw [HT.sIx_nat] at e
      omega
    rw [cut_from (by omega)]
    have s4 : Same H3 (upd H3 p4 (.tup (xs.drop (x + 1)))) := same_new n4
    refine ⟨c, p4, _, _, rfl, rfl, SqT.of (s4 _ _ ec), SqT.of upd_same, ?_, fun z => ?_, fun _ z => ?_, fun _ _ p5 n5 => ?_⟩
    · rw [List.length_append, List.length_take, List.length_drop, List.length_singleton]
      exact Nat.le_of_lt (small1000 (by omega))
    · simp at z
    · refine q _ _ (s3.trans s4) nc ?_
      rw [s4 _ _ ec, ← set_app xs x y hx, z, List.append_nil]
    · refine q _ _ ((s3.trans s4).trans (same_new n5)) ((s3.trans s4).free n5) ?_
      rw [upd_same, set_app xs x y hx]
  refine ⟨p1, p2, xs.take x, [y], rfl, rfl, SqT.of ?_, SqT.of upd_same, ?_, fun z => ?_, fun _ z => ?_, fun _ _ p3 n3 => ?_⟩
  · rw [upd_ne (ne_of_none upd_same n2), upd_same]
  · rw [List.length_take, List.length_singleton]
    exact Nat.le_of_lt (small1000 (by omega))
  · exact key _ _ s2 n2' (by rw [upd_same, z]; rfl)
  · cases z
  · exact key _ _ (s2.trans (same_new n3)) (s2.free n3) upd_same
theorem ok_put (T : Txt mg t1 t2) (F : FunT K "put" s_put f fd) : FnOk P w K mg base CX0 1 f fd ["forest", "x", "place"] sp_put := by
  refine F.ok sc_put (fun vs H Q E h => ?_) (fun cdv A outer s H vs Q E hr h => ?_)
  · obtain ⟨a, xs, x, y, rfl, _⟩ := h
    rfl
  · obtain ⟨a, xs, x, y, rfl, ha, hx, hl, q⟩ := h
    refine ⟨_, (pss_one (ps_ret (pe_op op_catA (pe_op op_catA (pe_slice (r := rSlA K) sl_tupA (pv 0) po_none (po_some (pv 1))) (pe_tup (pa_cons (pv 2) pa_nil))) (pe_slice (r := rSlA K) sl_tupA (pv 0) (po_some (pe_op op_add (pv 1) pe_int)) po_none)))), ?_⟩
    exact put_reads rfl rfl rfl ha hx hl q
/-! ### the words of places -/
def sp_place_word : Sp := fun vs H Q _ => ∃ (v : V) (p : Place), vs = [v] ∧ Rp H v (pd p) ∧ okw p ∧ Q (.str (mkS (pwL p))) H
theorem sz {n : Nat} (h : n ≤ 100000) : n ≤ sizeLine := Nat.le_trans h (by decide)
theorem ok_place_word (T : Txt mg t1 t2) (F : FunT K "place_word" s_place_word f fd) : FnOk P w K mg base CX0 1 f fd ["place"] sp_place_word := by
  refine F.ok sc_place_word (fun vs H Q E h => ?_) (fun cdv A outer s H vs Q E hr h => ?_)
  · obtain ⟨v, p, rfl, _⟩ := h
    rfl
  · obtain ⟨v, p, rfl, hv, ok, q⟩ := h
    refine ⟨_, (pss_cons (ps_if (pt_cmpR op_isN (pv 0) pe_non (nomark _)) (pss_one (ps_ret pe_str)) pss_nil)
      (pss_one (ps_ret (pe_joined (PJ.cons (pe_fmt (pe_ix (r := rIxT K) ix_tup (pv 0) pe_int (fun _ _ => rfl))) (PJ.cons pe_str (PJ.cons (pe_fmt (pe_ix (r := rIxT K) ix_tup (pv 0) pe_int (fun _ _ => rfl))) PJ.nil))))))), ?_⟩
    cases p with
    | none =>
      cases pd_none hv
      refine ⟨_, rfl, rfl, _, rfl, iteD rfl ?_⟩
      show Q (.str (Str.ofString "-")) H
      rw [lit_dash]
      exact q
    | some hr' =>
      obtain ⟨h, r⟩ := hr'
      obtain ⟨b, rfl, hb⟩ := pd_some hv
      have hL := pwL_len (p := some (h, r)) ok
      obtain ⟨h1, h2⟩ := ok
      have hL2 : (numL h ++ 46 :: numL r).length ≤ 5 := hL
      rw [List.length_append, List.length_cons] at hL2
      refine ⟨_, rfl, rfl, _, rfl, iteDF (by intro z; cases z) ?_⟩
      refine ⟨_, rfl, b, _, 0, _, rfl, rfl, SqT.of hb, atI_nat (j := 0) rfl, .inr ⟨_, rfl, lg (by omega), num h, rfl, ?_, Str.ofString ".", rfl, ?_, _, rfl, b, _, 1, _, rfl, rfl, SqT.of hb, atI_nat (j := 1) rfl, .inr ⟨_, rfl, lg (by omega), num r, rfl, ?_, ?_⟩⟩⟩
      all_goals simp only [num_mkS, lit_dot, empty_mkS, app_mkS, mkS_len, List.nil_append]
      · exact sz (by omega)
      · exact sz (by rw [List.length_append, List.length_singleton]; omega)
      · exact sz (by rw [List.length_append, List.length_append, List.length_singleton]; omega)
      · have e : numL h ++ [46] ++ numL r = pwL (some (h, r)) := by
          show _ = numL h ++ 46 :: numL r
          rw [List.append_assoc]
          rfl
        rw [e]
        exact q
end
end KJ
set_option maxHeartbeats 4000000
namespace KJ
open PySem PySem.Spec PyProof.Rows L2 TL
theorem sum_le {k : Nat} : ∀ {ys : List Str}, (∀ y ∈ ys, y.length ≤ k) → (ys.map (·.length)).sum ≤ k * ys.length
  | [], _ => Nat.zero_le _
  | y :: ys, h => by
    have ih := sum_le (k := k) (ys := ys) fun z hz => h z (List.mem_cons_of_mem _ hz)
    have h0 := h y (List.mem_cons_self ..)
    rw [List.map_cons, List.sum_cons, List.length_cons, Nat.mul_succ]
    omega
theorem len_le {m : Nat} (h : m ≤ 100000) : m ≤ 16777216 := by omega
def okF (g : Forest) : Prop := g.length ≤ 24 ∧ ∀ p ∈ g, okw p
def okH (hs : List Hang) : Prop := hs.length ≤ 24 ∧ ∀ h ∈ hs, h.1 < 100 ∧ okw h.2
theorem spF_len {g : Forest} (h : okF g) : (spL (g.map pwL)).length ≤ 200 := by
  have z := spL_len (ws := g.map pwL) (k := 5) fun w hw => by
    obtain ⟨p, hp, rfl⟩ := List.mem_map.mp hw
    exact pwL_len (h.2 p hp)
  rw [List.length_map] at z
  have := h.1
  omega
theorem spH_len {hs : List Hang} (h : okH hs) : (spL (hs.map hwL)).length ≤ 300 := by
  have z := spL_len (ws := hs.map hwL) (k := 8) fun w hw => by
    obtain ⟨p, hp, rfl⟩ := List.mem_map.mp hw
    exact hwL_len (h.2 p hp).1 (h.2 p hp).2
  rw [List.length_map] at z
  have := h.1
  omega
theorem spL_map (ls : List (List Nat)) : Txt.join (Str.ofString "") (ls.map fun l => mkS (32 :: l)) = mkS (spL ls) := by
  rw [lit_nil]
  have e : (ls.map fun l => mkS (32 :: l)) = (ls.map (32 :: ·)).map mkS := by rw [List.map_map]; rfl
  rw [e, join_nil]
  rfl
section
variable {P : Program} {w : World} {K : PySem.W.Frag} {mg : Str → Option Value} {base : Heap} {t1 t2 : Tok} {f : Addr} {fd : FuncData}
/-! ### forest_words -/
def sp_forest_words : Sp := fun vs H Q _ => ∃ (v : V) (g : Forest), vs = [v] ∧ Rp H v (fod g) ∧ okF g ∧ ∀ H', Same H H' → Q (.str (mkS (spL (g.map pwL)))) H'
theorem ok_forest_words (T : Txt mg t1 t2) (c_place_word : Cal P w K mg base 1 "place_word" sp_place_word) (F : FunT K "forest_words" s_forest_words f fd) : FnOk P w K mg base CX0 2 f fd ["forest"] sp_forest_words := by
  refine F.ok sc_forest_words (fun vs H Q E h => ?_) (fun cdv A outer s H vs Q E hr h => ?_)
  · obtain ⟨v, g, rfl, _⟩ := h
    rfl
  · obtain ⟨v, g, rfl, hv, ok, q⟩ := h
    obtain ⟨a, xs, rfl, ha, hxs, hlen⟩ := fd_inv hv
    refine ⟨_, (pss_one (ps_ret (pe_join pe_str (pe_lc (own := [("place", 1)]) (g := gName 1) (tt := tYes) (by rfl) sc_forest_words.nd (pi_tup (pv 0)) (blkOk_by (own := [("place", 1)]) (N := N_forest_words) (sc := defScope s_forest_words) (by decide +kernel)) (fun _ _ _ _ _ => (pg_name (i := 1) sc_forest_words.nd rfl (Or.inl rfl))) (fun _ _ _ _ _ => pts_nil) (fun _ _ _ _ _ => (pe_op op_add_str pe_str (pe_c c_place_word hr (by decide) rfl (pa_cons (pv 1) pa_nil)))))))), ?_⟩
    refine ⟨⟨_, rfl⟩, _, rfl, a, rfl, ⟨_, SqT.of ha⟩, fun D nD => lc_tup (xs := xs) (fun i H' => Same H H' ∧ H' D = some (.lst ((g.take i).map fun p => V.str (mkS (32 :: pwL p))))) ⟨same_new nD, upd_same⟩ (fun i H' _ h => SqT.of (h.1 _ _ ha)) ?_ ?_⟩
    · rintro i y H1 ey ⟨sm, eD⟩
      obtain ⟨d, ed, ry⟩ := hxs.getV ey
      obtain ⟨p, ep, rfl⟩ : ∃ p, g[i]? = some p ∧ d = pd p := by
        rw [List.getElem?_map] at ed
        cases z : g[i]? with
        | none => rw [z] at ed; cases ed
        | some m => rw [z] at ed; exact ⟨m, rfl, (Option.some.inj ed).symm⟩
      have okp := ok.2 p (List.mem_of_getElem? ep)
      have hi := (List.getElem?_eq_some_iff.mp ep).1
      have l24 := ok.1
      refine ⟨rfl, _, rfl, y, p, rfl, ry.mono sm, okp, Str.ofString " ", _, rfl, rfl, ?_, _, eD, ?_, fun b o e => ?_, ?_⟩
      · rw [lit_sp, mkS_len, mkS_len]
        have := pwL_len okp
        exact sz (by rw [List.length_singleton]; omega)
      · rw [List.length_map, List.length_take]
        exact small1000 (by omega)
      · rw [upd_ne (ne_of_none e nD)]
        exact sm b o e
      · rw [upd_same, lit_sp, app_mkS, List.take_add_one, ep, List.map_append]
        rfl
    · rintro H1 ⟨sm, eD⟩
      have e1 : g.take xs.length = g := List.take_of_length_le (by omega)
      rw [e1] at eD
      refine ⟨_, D, (g.map pwL).map fun l => mkS (32 :: l), rfl, rfl, .inl (SqL.of ?_), ?_, ?_⟩
      · rw [eD, List.map_map, List.map_map]
        rfl
      · have h1 := sum_le (k := 6) (ys := (g.map pwL).map fun l => mkS (32 :: l)) fun y hy => by
          obtain ⟨l, hl, rfl⟩ := List.mem_map.mp hy
          obtain ⟨p, hp, rfl⟩ := List.mem_map.mp hl
          rw [mkS_len, List.length_cons]
          have := pwL_len (ok.2 p hp)
          omega
        rw [List.length_map, List.length_map] at h1 ⊢
        have h2 : (Str.ofString "").length = 0 := by rw [lit_nil, mkS_len]; rfl
        rw [h2, Nat.mul_zero]
        have := ok.1
        exact len_le (by omega)
      · rw [spL_map]
        exact q _ sm
/-! ### base_text, lay_text, shut_text, open_text -/
theorem base_eq (g : Forest) : Str.ofString "0 base" ++ mkS (spL (g.map pwL)) ++ Str.ofString "\n" = mkS (baseL g) := by
  rw [lit_base0, lit_nl, app_mkS, app_mkS]
  unfold baseL rowL
  rw [num0, spL_cons]
  rfl
def sp_base_text : Sp := fun vs H Q _ => ∃ (v : V) (g : Forest), vs = [v] ∧ Rp H v (fod g) ∧ okF g ∧ ∀ H', Same H H' → Q (.str (mkS (baseL g))) H'
theorem ok_base_text (T : Txt mg t1 t2) (c_forest_words : Cal P w K mg base 2 "forest_words" sp_forest_words) (F : FunT K "base_text" s_base_text f fd) : FnOk P w K mg base CX0 3 f fd ["forest"] sp_base_text := by
  refine F.ok sc_base_text (fun vs H Q E h => ?_) (fun cdv A outer s H vs Q E hr h => ?_)
  · obtain ⟨v, g, rfl, _⟩ := h
    rfl
  · obtain ⟨v, g, rfl, hv, ok, q⟩ := h
    refine ⟨_, (pss_one (ps_ret (pe_op op_add_str (pe_op op_add_str pe_str (pe_c c_forest_words hr (by decide) rfl (pa_cons (pv 0) pa_nil))) pe_str))), ?_⟩
    have hl := spF_len ok
    refine ⟨_, rfl, v, g, rfl, hv, ok, fun H1 s1 => ⟨_, _, rfl, rfl, ?_, _, _, rfl, rfl, ?_, ?_⟩⟩
    · rw [lit_base0, mkS_len, mkS_len]
      exact sz (by show 6 + _ ≤ 100000; omega)
    · rw [lit_base0, lit_nl, app_mkS, mkS_len, mkS_len, List.length_append]
      exact sz (by show 6 + _ + 1 ≤ 100000; omega)
    · rw [base_eq]
      exact q _ s1
theorem lay_eq (n : Nat) (g : Forest) : num n ++ Str.ofString " lay" ++ mkS (spL (g.map pwL)) ++ Str.ofString "\n" = mkS (layL n g) := by
  rw [lit_lay, lit_nl, num_mkS, app_mkS, app_mkS, app_mkS]
  unfold layL rowL
  rw [spL_cons]
  simp only [List.append_assoc, List.cons_append, List.nil_append]
theorem open_eq (n : Nat) (hs : List Hang) : num n ++ Str.ofString " open" ++ mkS (spL (hs.map hwL)) ++ Str.ofString "\n" = mkS (openL n hs) := by
  rw [lit_open, lit_nl, num_mkS, app_mkS, app_mkS, app_mkS]
  unfold openL rowL
  rw [spL_cons]
  simp only [List.append_assoc, List.cons_append, List.nil_append]
theorem shut_eq (n : Nat) : num n ++ Str.ofString " shut\n" = mkS (shutL n) := by
  rw [lit_shut, num_mkS, app_mkS]
  unfold shutL rowL
  rw [spL_cons]
  simp only [List.append_assoc, List.cons_append, List.nil_append, spL_nil]
theorem num_len {n : Nat} (h : n < 10000) : (numL n).length ≤ 4 := numL_len (n := n) (k := 4) (by omega) (by omega)
def sp_lay_text : Sp := fun vs H Q _ => ∃ (n : Nat) (v : V) (g : Forest), vs = [.int (n : Int), v] ∧ n < 10000 ∧ Rp H v (fod g) ∧ okF g ∧ ∀ H', Same H H' → Q (.str (mkS (layL n g))) H'
theorem emp_app (x : Str) : Str.empty ++ x = x := ext_tl (by rw [tl_append]; rfl)
theorem ok_lay_text (T : Txt mg t1 t2) (c_forest_words : Cal P w K mg base 2 "forest_words" sp_forest_words) (F : FunT K "lay_text" s_lay_text f fd) : FnOk P w K mg base CX0 3 f fd ["number", "forest"] sp_lay_text := by
  refine F.ok sc_lay_text (fun vs H Q E h => ?_) (fun cdv A outer s H vs Q E hr h => ?_)
  · obtain ⟨n, v, g, rfl, _⟩ := h
    rfl
  · obtain ⟨n, v, g, rfl, hn, hv, ok, q⟩ := h
    refine ⟨_, (pss_one (ps_ret (pe_op op_add_str (pe_op op_add_str (pe_joined (PJ.cons (pe_fmt (pv 0)) (PJ.cons pe_str PJ.nil))) (pe_c c_forest_words hr (by decide) rfl (pa_cons (pv 1) pa_nil))) pe_str))), ?_⟩
    have hl := spF_len ok
    have h4 := num_len hn
    refine ⟨_, rfl, .inr ⟨_, rfl, lg (by omega), num n, rfl, ?_, _, rfl, ?_, _, rfl, v, g, rfl, hv, ok, fun H1 s1 => ⟨_, _, rfl, rfl, ?_, _, _, rfl, rfl, ?_, ?_⟩⟩⟩
    all_goals rw [emp_app]
    · rw [num_mkS, mkS_len]; exact sz (by omega)
    · rw [num_mkS, lit_lay, app_mkS, mkS_len, List.length_append]; exact sz (by show _ + 4 ≤ 100000; omega)
    · rw [num_mkS, lit_lay, app_mkS, mkS_len, mkS_len, List.length_append]; exact sz (by show _ + 4 + _ ≤ 100000; omega)
    · rw [num_mkS, lit_lay, lit_nl, app_mkS, app_mkS, mkS_len, mkS_len, List.length_append, List.length_append]; exact sz (by show _ + 4 + _ + 1 ≤ 100000; omega)
    · rw [lay_eq]
      exact q _ s1
def sp_shut_text : Sp := fun vs H Q _ => ∃ (n : Nat), vs = [.int (n : Int)] ∧ n < 10000 ∧ Q (.str (mkS (shutL n))) H
theorem ok_shut_text (T : Txt mg t1 t2) (F : FunT K "shut_text" s_shut_text f fd) : FnOk P w K mg base CX0 1 f fd ["number"] sp_shut_text := by
  refine F.ok sc_shut_text (fun vs H Q E h => ?_) (fun cdv A outer s H vs Q E hr h => ?_)
  · obtain ⟨n, rfl, _⟩ := h
    rfl
  · obtain ⟨n, rfl, hn, q⟩ := h
    refine ⟨_, (pss_one (ps_ret (pe_joined (PJ.cons (pe_fmt (pv 0)) (PJ.cons pe_str PJ.nil))))), ?_⟩
    have h4 := num_len hn
    refine ⟨_, rfl, .inr ⟨_, rfl, lg (by omega), num n, rfl, ?_, _, rfl, ?_, ?_⟩⟩
    all_goals rw [emp_app]
    · rw [num_mkS, mkS_len]; exact sz (by omega)
    · rw [num_mkS, lit_shut, app_mkS, mkS_len, List.length_append]; exact sz (by show _ + 6 ≤ 100000; omega)
    · rw [shut_eq]
      exact q
def sp_open_text : Sp := fun vs H Q _ => ∃ (n : Nat) (v : V) (hs : List Hang), vs = [.int (n : Int), v] ∧ n < 10000 ∧ Rp H v (.tuple (hs.map hd)) ∧ okH hs ∧ ∀ H', Same H H' → Q (.str (mkS (openL n hs))) H'
theorem ok_open_text (T : Txt mg t1 t2) (c_place_word : Cal P w K mg base 1 "place_word" sp_place_word) (F : FunT K "open_text" s_open_text f fd) : FnOk P w K mg base CX0 2 f fd ["number", "hangs"] sp_open_text := by
  refine F.ok sc_open_text (fun vs H Q E h => ?_) (fun cdv A outer s H vs Q E hr h => ?_)
  · obtain ⟨n, v, hs, rfl, _⟩ := h
    rfl
  · obtain ⟨n, v, hs, rfl, hn, hv, ok, q⟩ := h
    obtain ⟨a, xs, rfl, ha, hxs⟩ := Rp.tup_inv hv
    have hlen : xs.length = hs.length := by rw [hxs.len, List.length_map]
    refine ⟨_, (pss_one (ps_ret (pe_op op_add_str (pe_op op_add_str (pe_joined (PJ.cons (pe_fmt (pv 0)) (PJ.cons pe_str PJ.nil))) (pe_join pe_str (pe_lc (own := [("x", 2), ("place", 3)]) (g := gTup K 2 (gCons (gName 2) (gCons (gName 3) gNil))) (tt := tYes) (by rfl) sc_open_text.nd (pi_tup (pv 1)) (blkOk_by (own := [("x", 2), ("place", 3)]) (N := N_open_text) (sc := defScope s_open_text) (by decide +kernel)) (fun _ _ _ _ _ => (pg_tup rfl (pgs_cons (pg_name (i := 2) sc_open_text.nd rfl (Or.inl rfl)) (pgs_cons (pg_name (i := 3) sc_open_text.nd rfl (Or.inl rfl)) pgs_nil)))) (fun _ _ _ _ _ => pts_nil) (fun _ _ _ _ _ => (pe_op op_add_str (pe_joined (PJ.cons pe_str (PJ.cons (pe_fmt (pv 2)) (PJ.cons pe_str PJ.nil)))) (pe_c c_place_word hr (by decide) rfl (pa_cons (pv 3) pa_nil))))))) pe_str))), ?_⟩
    have hl := spH_len ok
    have h4 := num_len hn
    have l24 := ok.1
    refine ⟨_, rfl, .inr ⟨_, rfl, lg (by omega), num n, rfl, ?_, _, rfl, ?_, ⟨_, rfl⟩, _, rfl, a, rfl, ⟨_, SqT.of ha⟩, fun D nD => lc_tup (xs := xs) (fun i H' => Same H H' ∧ H' D = some (.lst ((hs.take i).map fun p => V.str (mkS (32 :: hwL p))))) ⟨same_new nD, upd_same⟩ (fun i H' _ h => SqT.of (h.1 _ _ ha)) ?_ ?_⟩⟩
    · rw [emp_app, num_mkS, mkS_len]; exact sz (by omega)
    · rw [emp_app, num_mkS, lit_open, app_mkS, mkS_len, List.length_append]; exact sz (by show _ + 5 ≤ 100000; omega)
    · rintro i y H1 ey ⟨sm, eD⟩
      obtain ⟨d, ed, ry⟩ := hxs.getV ey
      obtain ⟨p, ep, rfl⟩ : ∃ p, hs[i]? = some p ∧ d = hd p := by
        rw [List.getElem?_map] at ed
        cases z : hs[i]? with
        | none => rw [z] at ed; cases ed
        | some m => rw [z] at ed; exact ⟨m, rfl, (Option.some.inj ed).symm⟩
      have okp := ok.2 p (List.mem_of_getElem? ep)
      have hi := (List.getElem?_eq_some_iff.mp ep).1
      have l8 := hwL_len okp.1 okp.2
      have l2 := numL_len (n := p.1) (k := 2) (by omega) (by omega)
      have l5 := pwL_len okp.2
      obtain ⟨b, z, rfl, hb, rz⟩ := hd_inv ry
      refine ⟨b, _, rfl, SqT.of (sm _ _ hb), rfl, _, _, rfl, _, _, rfl, rfl, rfl, ?_⟩
      refine ⟨_, rfl, ?_, _, rfl, .inr ⟨_, rfl, lg (by omega), num p.1, rfl, ?_, _, rfl, ?_, _, rfl, z, p.2, rfl, rz.mono sm, okp.2, _, _, rfl, rfl, ?_, _, eD, ?_, fun c o e => ?_, ?_⟩⟩
      · rw [emp_app, lit_sp, mkS_len]; exact sz (by decide)
      · rw [emp_app, lit_sp, num_mkS, app_mkS, mkS_len, List.length_append]; exact sz (by show 1 + _ ≤ 100000; omega)
      · rw [emp_app, lit_sp, num_mkS, lit_col, app_mkS, app_mkS, mkS_len, List.length_append, List.length_append]; exact sz (by show 1 + _ + 1 ≤ 100000; omega)
      · rw [emp_app, lit_sp, num_mkS, lit_col, app_mkS, app_mkS, mkS_len, mkS_len, List.length_append, List.length_append]; exact sz (by show 1 + _ + 1 + _ ≤ 100000; omega)
      · rw [List.length_map, List.length_take]
        exact small1000 (by omega)
      · rw [upd_ne (ne_of_none e nD)]
        exact sm c o e
      · rw [upd_same, emp_app, lit_sp, num_mkS, lit_col, app_mkS, app_mkS, app_mkS, List.take_add_one, ep, List.map_append]
        have e5 : [32] ++ numL p.1 ++ [58] ++ pwL p.2 = 32 :: hwL p := by
          show _ = 32 :: (numL p.1 ++ 58 :: pwL p.2)
          simp only [List.append_assoc, List.cons_append, List.nil_append]
        rw [e5]
        rfl
    · rintro H1 ⟨sm, eD⟩
      have e1 : hs.take xs.length = hs := List.take_of_length_le (by omega)
      rw [e1] at eD
      refine ⟨_, D, (hs.map hwL).map fun l => mkS (32 :: l), rfl, rfl, .inl (SqL.of ?_), ?_, ?_⟩
      · rw [eD, List.map_map, List.map_map]
        rfl
      · have h1 := sum_le (k := 9) (ys := (hs.map hwL).map fun l => mkS (32 :: l)) fun y hy => by
          obtain ⟨l, hl, rfl⟩ := List.mem_map.mp hy
          obtain ⟨p, hp, rfl⟩ := List.mem_map.mp hl
          rw [mkS_len, List.length_cons]
          have := hwL_len (ok.2 p hp).1 (ok.2 p hp).2
          omega
        rw [List.length_map, List.length_map] at h1 ⊢
        have h2 : (Str.ofString "").length = 0 := by rw [lit_nil, mkS_len]; rfl
        rw [h2, Nat.mul_zero]
        exact len_le (by omega)
      · rw [spL_map, emp_app]
        refine ⟨_, _, rfl, rfl, ?_, _, _, rfl, rfl, ?_, ?_⟩
        · rw [num_mkS, lit_open, app_mkS, mkS_len, mkS_len, List.length_append]; exact sz (by show _ + 5 + _ ≤ 100000; omega)
        · rw [num_mkS, lit_open, lit_nl, app_mkS, app_mkS, mkS_len, mkS_len, List.length_append, List.length_append]; exact sz (by show _ + 5 + _ + 1 ≤ 100000; omega)
        · rw [open_eq]
          exact q _ sm
end
end KJ
set_option maxHeartbeats 4000000
namespace KJ
open PySem PySem.Spec PyProof.Rows L2 TL
/-! ### what is new and stays -/
def absorb (G H H' : Hp) : Hp := fun b => match H b with
  | some _ => G b
  | none => H' b
theorem absorb_new {G H H' : Hp} {b : Addr} (h : H b = none) : absorb G H H' b = H' b := by unfold absorb; rw [h]
theorem absorb_old {G H H' : Hp} {b : Addr} {o : HO} (h : H b = some o) : absorb G H H' b = G b := by unfold absorb; rw [h]
theorem Xt.absorb {M : List Addr} {G H H' : Hp} (s : Same G H) (t : Same H H') : Xt M G H (absorb G H H') H' := by
  refine ⟨fun b o e => ?_, fun b o e => ?_, fun b o _ e => t b o e, fun b o e => ⟨o, t b o e⟩, fun b o e z => ?_⟩
  · rw [absorb_old (s b o e)]; exact e
  · cases h : H b with
    | some u => rw [absorb_old h] at e; rw [t b u h, ← s b o e, h]
    | none => rw [absorb_new h] at e; exact e
  · rw [absorb_old e]; exact z
/-! ### turns over a range, a list, a tuple, whatever a turn is -/
section
variable {n : Nat} {Hs : Hp} {Qd : Hp → Prop} {Step : (Hp → Prop) → V → Hp → Prop}
theorem rng_loop {lo : Int} (Pv : Nat → Hp → Prop) (h0 : Pv 0 Hs) (hs : ∀ i H, i < n → Pv i H → Step (Pv (i + 1)) (.int (lo + (i : Nat))) H) (hd : ∀ H, Pv n H → Qd H) :
    ∃ W : Nat → Nat → Hp → Prop, (∃ m, W 0 m Hs) ∧ ∀ i m H, W i m H → ((Itr lo n).stop i H ∧ Qd H) ∨ ((Itr lo n).go i H ∧ ∃ Nx : Hp → Prop, (∀ H', Nx H' → ∃ m', m' < m ∧ W (i + 1) m' H') ∧ ∀ x H', (Itr lo n).yld i H x H' → Step Nx x H') := by
  refine ⟨fun i m H => m + i = n ∧ Pv i H, ⟨n, rfl, h0⟩, ?_⟩
  rintro i m H ⟨e, p⟩
  by_cases hlt : i < n
  · refine .inr ⟨hlt, Pv (i + 1), fun H' p' => ⟨m - 1, by omega, by omega, p'⟩, fun x H' y => ?_⟩
    obtain ⟨e1, e2⟩ := y
    subst e1 e2
    exact hs i _ hlt p
  · have e3 : i = n := by omega
    subst e3
    exact .inl ⟨Nat.le_refl _, hd H p⟩
theorem lst_loop {K : PySem.W.Frag} {a : Addr} {xs : List V} (Pv : Nat → Hp → Prop) (h0 : Pv 0 Hs) (hl : ∀ i H, Pv i H → SqL K H a xs) (hs : ∀ i x H, xs[i]? = some x → Pv i H → Step (Pv (i + 1)) x H) (hd : ∀ H, Pv xs.length H → Qd H) :
    ∃ W : Nat → Nat → Hp → Prop, (∃ m, W 0 m Hs) ∧ ∀ i m H, W i m H → ((Itl K a).stop i H ∧ Qd H) ∨ ((Itl K a).go i H ∧ ∃ Nx : Hp → Prop, (∀ H', Nx H' → ∃ m', m' < m ∧ W (i + 1) m' H') ∧ ∀ x H', (Itl K a).yld i H x H' → Step Nx x H') := by
  refine ⟨fun i m H => m + i = xs.length ∧ Pv i H, ⟨xs.length, rfl, h0⟩, ?_⟩
  rintro i m H ⟨e, p⟩
  have q := hl i H p
  by_cases hlt : i < xs.length
  · refine .inr ⟨⟨xs, xs[i], q, List.getElem?_eq_getElem hlt⟩, Pv (i + 1), fun H' p' => ⟨m - 1, by omega, by omega, p'⟩, fun x H' y => ?_⟩
    obtain ⟨e1, y⟩ := y
    subst e1
    exact hs i x _ (y xs q) p
  · have e3 : i = xs.length := by omega
    subst e3
    exact .inl ⟨⟨xs, q, Nat.le_refl _⟩, hd H p⟩
theorem tup_loop {K : PySem.W.Frag} {a : Addr} {xs : List V} (Pv : Nat → Hp → Prop) (h0 : Pv 0 Hs) (hl : ∀ i H, Pv i H → SqT K H a xs) (hs : ∀ i x H, xs[i]? = some x → Pv i H → Step (Pv (i + 1)) x H) (hd : ∀ H, Pv xs.length H → Qd H) :
    ∃ W : Nat → Nat → Hp → Prop, (∃ m, W 0 m Hs) ∧ ∀ i m H, W i m H → ((Itt K a).stop i H ∧ Qd H) ∨ ((Itt K a).go i H ∧ ∃ Nx : Hp → Prop, (∀ H', Nx H' → ∃ m', m' < m ∧ W (i + 1) m' H') ∧ ∀ x H', (Itt K a).yld i H x H' → Step Nx x H') := by
  refine ⟨fun i m H => m + i = xs.length ∧ Pv i H, ⟨xs.length, rfl, h0⟩, ?_⟩
  rintro i m H ⟨e, p⟩
  have q := hl i H p
  by_cases hlt : i < xs.length
  · refine .inr ⟨⟨xs, xs[i], q, List.getElem?_eq_getElem hlt⟩, Pv (i + 1), fun H' p' => ⟨m - 1, by omega, by omega, p'⟩, fun x H' y => ?_⟩
    obtain ⟨e1, y⟩ := y
    subst e1
    exact hs i x _ (y xs q) p
  · have e3 : i = xs.length := by omega
    subst e3
    exact .inl ⟨⟨xs, q, Nat.le_refl _⟩, hd H p⟩
end
/-! ### the words of places name them -/
theorem cut_inj {s : Nat} : ∀ {a a' b b' : List Nat}, s ∉ a → s ∉ a' → a ++ s :: b = a' ++ s :: b' → a = a' ∧ b = b'
  | [], [], _, _, _, _, h => ⟨rfl, (List.cons.inj h).2⟩
  | [], x :: a', _, _, _, h2, h => by
    have e := (List.cons.inj h).1
    exact absurd (by rw [e]; exact List.mem_cons_self ..) h2
  | x :: a, [], _, _, h1, _, h => by
    have e := (List.cons.inj h).1
    exact absurd (by rw [← e]; exact List.mem_cons_self ..) h1
  | x :: a, y :: a', b, b', h1, h2, h => by
    obtain ⟨e1, e2⟩ := List.cons.inj h
    obtain ⟨e3, e4⟩ := cut_inj (fun z => h1 (List.mem_cons_of_mem _ z)) (fun z => h2 (List.mem_cons_of_mem _ z)) e2
    exact ⟨by rw [e1, e3], e4⟩
theorem pwL_inj : ∀ {p q : Place}, pwL p = pwL q → p = q
  | none, none, _ => rfl
  | none, some (h, r), e => by
    have e1 : ([45] : List Nat) = numL h ++ 46 :: numL r := e
    have l := congrArg List.length e1
    simp only [List.length_append, List.length_cons, List.length_nil] at l
    have := List.length_pos_iff.mpr (numL_ne h)
    omega
  | some (h, r), none, e => by
    have e1 : numL h ++ 46 :: numL r = ([45] : List Nat) := e
    have l := congrArg List.length e1
    simp only [List.length_append, List.length_cons, List.length_nil] at l
    have := List.length_pos_iff.mpr (numL_ne h)
    omega
  | some (h, r), some (h', r'), e => by
    have e1 : numL h ++ 46 :: numL r = numL h' ++ 46 :: numL r' := e
    obtain ⟨e2, e3⟩ := cut_inj (numL_free (by omega)) (numL_free (by omega)) e1
    rw [numL_inj e2, numL_inj e3]
def okAny (rs : List Nat) : Place → Prop
  | none => True
  | some (h, r) => ∃ m, rs[h]? = some m ∧ r < m
theorem okP.any {rs : List Nat} {x : Nat} {p : Place} (h : okP rs x p) : okAny rs p := by
  cases p with
  | none => trivial
  | some q => obtain ⟨a, r⟩ := q; exact h.2
theorem okAny.okw {rs : List Nat} {p : Place} (h : okAny rs p) (ok : RsOk rs) : okw p := by
  cases p with
  | none => trivial
  | some q =>
    obtain ⟨a, r⟩ := q
    obtain ⟨m, em, lt⟩ := h
    have := (List.getElem?_eq_some_iff.mp em).1
    have := ok.le4 _ _ em
    have := ok.len
    exact ⟨by omega, by omega⟩
def ThingsAt (G : Hp) (d : Addr) (rs : List Nat) : Prop := ∃ k1 : List (Key × V), G d = some (.dK k1) ∧ ∀ x, x < rs.length → valV k1 (.inr (mkS (numL x))) = some (.int (x : Int))
def PlacesAt (G : Hp) (d : Addr) (rs : List Nat) : Prop := ∃ k2 : List (Key × V), G d = some (.dK k2) ∧ ∀ p, okAny rs p → ∃ y, valV k2 (.inr (mkS (pwL p))) = some y ∧ Rp G y (pd p)
def NamesAt (G : Hp) (v : V) (rs : List Nat) : Prop := ∃ t d1 d2, v = .ref t ∧ G t = some (.tup [.ref d1, .ref d2]) ∧ ThingsAt G d1 rs ∧ PlacesAt G d2 rs
theorem ThingsAt.mono {G G' : Hp} {d : Addr} {rs : List Nat} (s : Same G G') (h : ThingsAt G d rs) : ThingsAt G' d rs := let ⟨k, e, z⟩ := h; ⟨k, s _ _ e, z⟩
theorem PlacesAt.mono {G G' : Hp} {d : Addr} {rs : List Nat} (s : Same G G') (h : PlacesAt G d rs) : PlacesAt G' d rs := let ⟨k, e, z⟩ := h; ⟨k, s _ _ e, fun p o => let ⟨y, a, b⟩ := z p o; ⟨y, a, b.mono s⟩⟩
theorem NamesAt.mono {G G' : Hp} {v : V} {rs : List Nat} (s : Same G G') (h : NamesAt G v rs) : NamesAt G' v rs := let ⟨t, d1, d2, e, z, a, b⟩ := h; ⟨t, d1, d2, e, s _ _ z, a.mono s, b.mono s⟩
def roomsOf (rs : List Nat) (x : Nat) : List Place := (List.range (rs.getD x 0)).map fun r => some (x, r)
def allP (rs : List Nat) : Nat → List Place
  | 0 => []
  | k + 1 => allP rs k ++ roomsOf rs k
theorem allP_len {rs : List Nat} (ok : RsOk rs) : ∀ k, (allP rs k).length ≤ 4 * k
  | 0 => Nat.le_refl _
  | k + 1 => by
    show (allP rs k ++ roomsOf rs k).length ≤ _
    have ih := allP_len ok k
    have h : rs.getD k 0 ≤ 4 := by
      rw [List.getD_eq_getElem?_getD]
      cases e : rs[k]? with
      | none => simp
      | some m => exact ok.le4 k m e
    rw [List.length_append, roomsOf, List.length_map, List.length_range]
    omega
theorem allP_mem {rs : List Nat} {h r m : Nat} (e : rs[h]? = some m) (lt : r < m) : ∀ k, h < k → some (h, r) ∈ allP rs k
  | 0, z => absurd z (Nat.not_lt_zero _)
  | k + 1, z => by
    show _ ∈ allP rs k ++ roomsOf rs k
    by_cases hk : h = k
    · subst hk
      refine List.mem_append_right _ (List.mem_map.mpr ⟨r, List.mem_range.mpr ?_, rfl⟩)
      rw [List.getD_eq_getElem?_getD, e]
      exact lt
    · exact List.mem_append_left _ (allP_mem e lt k (by omega))
theorem allP_ok {rs : List Nat} : ∀ k, k ≤ rs.length → ∀ p ∈ allP rs k, okAny rs p
  | 0, _, p, h => absurd h List.not_mem_nil
  | k + 1, hk, p, h => by
    have h' : p ∈ allP rs k ++ roomsOf rs k := h
    rcases List.mem_append.mp h' with h | h
    · exact allP_ok k (by omega) p h
    · obtain ⟨r, hr, rfl⟩ := List.mem_map.mp h
      have lt := List.mem_range.mp hr
      have hlt : k < rs.length := by omega
      rw [List.getD_eq_getElem?_getD, List.getElem?_eq_getElem hlt] at lt
      exact ⟨_, List.getElem?_eq_getElem hlt, lt⟩
section
variable {P : Program} {w : World} {K : PySem.W.Frag} {mg : Str → Option Value} {base : Heap} {t1 t2 : Tok} {f : Addr} {fd : FuncData}
/-! ### names_of -/
def sp_names_of : Sp := fun vs H Q _ => ∃ (G : Hp) (v : V) (rs : List Nat), vs = [v] ∧ Same G H ∧ Rp G v (rd rs) ∧ RsOk rs ∧ ∀ G' H' u, Xt [] G H G' H' → NamesAt G' u rs → Q u H'
theorem ok_names_of (T : Txt mg t1 t2) (c_place_word : Cal P w K mg base 1 "place_word" sp_place_word) (F : FunT K "names_of" s_names_of f fd) : FnOk P w K mg base CX0 2 f fd ["rooms"] sp_names_of := by
  refine F.ok sc_names_of (fun vs H Q E h => ?_) (fun cdv A outer s H vs Q E hr h => ?_)
  · obtain ⟨G, v, rs, rfl, _⟩ := h
    rfl
  · obtain ⟨G, v, rs, rfl, sG, hv, ok, q⟩ := h
    obtain ⟨a, rfl, gA⟩ := rd_inv hv
    have ha := sG _ _ gA
    have l24 := ok.len
    have hb := r62 (n := (rs.map fun n : Nat => V.int (n : Int)).length) (by rw [List.length_map]; omega)
    refine ⟨_, (pss_cons (ps_set (i := 1) sc_names_of.nd rfl (Or.inl rfl) (pe_op op_cat (pe_lst (pa_cons pe_non pa_nil)) (pe_lc2 (own := [("x", 2), ("room", 3)]) (g := gName 2) (g1 := gName 3) (vs1 := [3]) (tt := tYes) (tt1 := tYes) (by rfl) sc_names_of.nd (pi_range1 (by rfl) T.range (pa_cons (pe_callB call_len_seq (by rfl) T.len (by decide +kernel) (pa_cons (pv 0) pa_nil)) pa_nil)) (blkOk_by (own := [("x", 2), ("room", 3)]) (N := N_names_of) (sc := defScope s_names_of) (by decide +kernel)) (by decide) (fun _ _ _ _ _ => (pg_name (i := 2) sc_names_of.nd rfl (Or.inl rfl))) (fun _ _ _ _ _ => pts_nil) (fun _ _ _ _ _ => (pi_range1 (by rfl) T.range (pa_cons (pe_ix (r := rIxT K) ix_tup (pv 0) (pv 2) (fun _ _ => rfl)) pa_nil))) (fun _ _ _ _ _ => (pg_name (i := 3) sc_names_of.nd rfl (Or.inl rfl))) (fun _ _ _ _ _ => pts_nil) (fun _ _ _ _ _ => (pe_tup (pa_cons (pv 2) (pa_cons (pv 3) pa_nil)))))))
      (pss_one (ps_ret (pe_tup (pa_cons (pe_dc (own := [("x", 2)]) (g := gName 2) (tt := tYes) (by rfl) sc_names_of.nd (pi_range1 (by rfl) T.range (pa_cons (pe_callB call_len_seq (by rfl) T.len (by decide +kernel) (pa_cons (pv 0) pa_nil)) pa_nil)) (blkOk_by (own := [("x", 2)]) (N := N_names_of) (sc := defScope s_names_of) (by decide +kernel)) (fun _ _ _ _ _ => (pg_name (i := 2) sc_names_of.nd rfl (Or.inl rfl))) (fun _ _ _ _ _ => pts_nil) (fun _ _ _ _ _ => (pe_callTy call_str_int (by rfl) T.str (by decide +kernel) (pa_cons (pv 2) pa_nil))) (fun _ _ _ _ _ => (pv 2))) (pa_cons (pe_dc (own := [("place", 4)]) (g := gName 4) (tt := tYes) (by rfl) sc_names_of.nd (pi_list (pv 1)) (blkOk_by (own := [("place", 4)]) (N := N_names_of) (sc := defScope s_names_of) (by decide +kernel)) (fun _ _ _ _ _ => (pg_name (i := 4) sc_names_of.nd rfl (Or.inl rfl))) (fun _ _ _ _ _ => pts_nil) (fun _ _ _ _ _ => (pe_c c_place_word hr (by decide) rfl (pa_cons (pv 4) pa_nil))) (fun _ _ _ _ _ => (pv 4))) pa_nil)))))), ?_⟩
    -- [None]
    refine ⟨(by show 1 ≤ sizeLine; decide), fun l0 n0 => ?_⟩
    have E0 : Xt [] G H G (upd H l0 (.lst [.non])) := (Xt.refl sG).newM n0
    -- [(x, room) for x in range(len(rooms)) for room in range(rooms[x])]
    refine ⟨_, rfl, a, _, rfl, .inr (SqT.of (E0.hk ha)), _, rfl, hb.1, hb.2, fun D nD => ?_⟩
    have nl0D : l0 ≠ D := ne_of_none upd_same nD
    have D0 : H D = none := by
      rw [upd_ne nl0D.symm] at nD
      exact nD
    refine rng_loop (fun i H' => ∃ (G' : Hp) (acc : List V), Xt [] G H G' H' ∧ H' l0 = some (.lst [.non]) ∧ H' D = some (.lst acc) ∧ G' D = none ∧ RpA G' acc ((allP rs i).map pd)) ⟨G, [], E0.newM nD, by rw [upd_ne nl0D]; exact upd_same, upd_same, sG.free D0, .nil⟩ ?_ ?_
    · rintro i H1 hi ⟨G1, acc, E1, e0, eD, gD, ra⟩
      have hi' : i < rs.length := by simpa using hi
      have em := List.getElem?_eq_getElem hi'
      have m4 := ok.le4 i _ em
      have hb2 := r62 (n := rs[i]) (by omega)
      refine ⟨rfl, ?_⟩
      refine ⟨_, rfl, _, rfl, a, _, _, _, rfl, rfl, SqT.of (E1.hk ha), ?_, _, rfl, hb2.1, hb2.2, ?_⟩
      · rw [Int.zero_add]
        exact atI_nat (rd_at em)
      · refine rng_loop (fun j H' => ∃ (G' : Hp) (acc : List V), Xt [] G H G' H' ∧ H' l0 = some (.lst [.non]) ∧ H' D = some (.lst acc) ∧ G' D = none ∧ RpA G' acc ((allP rs i ++ (List.range j).map fun r => some (i, r)).map pd)) ⟨G1, acc, E1, e0, eD, gD, by simpa using ra⟩ ?_ ?_
        · rintro j H2 hj ⟨G2, acc2, E2, e02, eD2, gD2, ra2⟩
          have hj' : j < rs[i] := by simpa using hj
          refine ⟨rfl, ?_⟩
          refine ⟨_, rfl, _, rfl, (by show 2 ≤ sizeLine; decide), fun p np => ?_⟩
          have npD : D ≠ p := ne_of_none eD2 np
          have np0 : l0 ≠ p := ne_of_none e02 np
          have len2 : acc2.length ≤ 4 * i + j := by
            have z := allP_len ok i
            rw [ra2.len, List.length_map, List.length_append, List.length_map, List.length_range]
            omega
          have gp : G2 p = none := E2.gh.free np
          simp only [Int.zero_add]
          refine ⟨acc2, by rw [upd_ne npD]; exact eD2, small1000 (by omega), upd G2 p (.tup [.int (i : Int), .int (j : Int)]), acc2 ++ [.ref p], ?_, ?_, upd_same, ?_, ?_⟩
          · have E3 := E2.new (o := .tup [.int (i : Int), .int (j : Int)]) np
            exact E3.mut (o := .lst (acc2 ++ [.ref p])) (by rw [upd_ne npD]; exact gD2) (.inr D0)
          · rw [upd_ne nl0D, upd_ne np0]
            exact e02
          · rw [upd_ne npD]
            exact gD2
          · have e6 : allP rs i ++ ((List.range (j + 1)).map fun r => some (i, r)) = (allP rs i ++ (List.range j).map fun r => some (i, r)) ++ [some (i, j)] := by
              rw [List.range_succ, List.map_append, ← List.append_assoc]
              rfl
            rw [e6, List.map_append]
            refine (ra2.mono (same_new gp)).snoc ?_
            exact .tup upd_same (.cons (.int _) (.cons (.int _) .nil))
        · rintro H2 ⟨G2, acc2, E2, e02, eD2, gD2, ra2⟩
          refine ⟨G2, acc2, E2, e02, eD2, gD2, ?_⟩
          have e3 : allP rs (i + 1) = allP rs i ++ (List.range ((rs[i] : Nat) : Int).toNat).map fun r => some (i, r) := by
            show allP rs i ++ roomsOf rs i = _
            rw [roomsOf, List.getD_eq_getElem?_getD, em, Int.toNat_natCast]
            rfl
          rw [e3]
          exact ra2
    · rintro H1 ⟨G1, acc, E1, e0, eD, gD, ra⟩
      have e4 : ((rs.map fun n : Nat => V.int (n : Int)).length : Int).toNat = rs.length := by simp
      rw [e4] at ra
      have la : acc.length ≤ 96 := by
        have z := allP_len ok rs.length
        rw [ra.len, List.length_map]
        omega
      refine ⟨l0, D, [.non], acc, rfl, rfl, e0, eD, Nat.le_of_lt (small1000 (by simp; omega)), fun p np => ?_⟩
      -- the dicts
      have E2 : Xt [] G H (upd G1 p (.lst ([.non] ++ acc))) (upd H1 p (.lst ([.non] ++ acc))) := E1.new np
      have gp : G1 p = none := E1.gh.free np
      have s2 : Same G1 (upd G1 p (.lst ([.non] ++ acc))) := same_new gp
      have ra2 : RpA (upd G1 p (.lst ([.non] ++ acc))) ([.non] ++ acc) ((none :: allP rs rs.length).map pd) := .cons .non (ra.mono s2)
      have g2p : upd G1 p (.lst ([.non] ++ acc)) p = some (.lst ([.non] ++ acc)) := upd_same
      revert E2 s2 ra2 g2p
      generalize upd G1 p (.lst ([.non] ++ acc)) = G2
      generalize upd H1 p (.lst ([.non] ++ acc)) = H2
      intro E2 s2 ra2 g2p
      refine ⟨_, rfl, a, _, rfl, .inr (SqT.of (E2.hk ha)), _, rfl, hb.1, hb.2, fun D1 nD1 => ?_⟩
      refine rng_loop (fun i H' => ∃ (k1 : List (Key × V)), Same H2 H' ∧ H' D1 = some (.dK k1) ∧ k1.length ≤ i ∧ ∀ x, x < i → valV k1 (.inr (mkS (numL x))) = some (.int (x : Int))) ⟨[], same_new nD1, upd_same, Nat.le_refl _, fun x z => absurd z (Nat.not_lt_zero _)⟩ ?_ ?_
      · rintro i H3 hi ⟨k1, sm, eD1, hk, hval⟩
        have hi' : i < rs.length := by simpa using hi
        refine ⟨rfl, ?_⟩
        refine ⟨_, rfl, ((i : Nat) : Int), by rw [Int.zero_add], lg (by omega), _, rfl, k1, .inr (mkS (numL i)), ?_, eD1, small1000 (by omega), ?_⟩
        · show V.str (num i) = V.str (mkS (numL i))
          rw [num_mkS]
        · refine ⟨putK k1 (.inr (mkS (numL i))) (.int (0 + (i : Int))), fun b o e => ?_, upd_same, ?_, fun x hx => ?_⟩
          · rw [upd_ne (ne_of_none e nD1)]
            exact sm b o e
          · have := length_putK k1 (.inr (mkS (numL i))) (.int (0 + (i : Int)))
            omega
          · rw [valV_put]
            by_cases hxi : x = i
            · subst hxi
              rw [if_pos rfl, Int.zero_add]
            · rw [if_neg (fun z => hxi (numL_inj (mkS_inj (Sum.inr.inj z))))]
              exact hval x (by omega)
      · rintro H3 ⟨k1, sm3, eD1, hk1, hval⟩
        rw [e4] at hk1 hval
        refine ⟨_, rfl, p, rfl, ⟨_, SqL.of (sm3 _ _ (E2.gh _ _ g2p))⟩, fun D2 nD2 => ?_⟩
        have n1D2 : D1 ≠ D2 := ne_of_none eD1 nD2
        refine lst_loop (xs := [.non] ++ acc) (fun i H' => ∃ (k2 : List (Key × V)), Same H2 H' ∧ H' D1 = some (.dK k1) ∧ H' D2 = some (.dK k2) ∧ k2.length ≤ i ∧ ∀ j, j < i → ∀ pl, (none :: allP rs rs.length)[j]? = some pl → ∃ y, valV k2 (.inr (mkS (pwL pl))) = some y ∧ Rp G2 y (pd pl))
          ⟨[], sm3.trans (same_new nD2), by rw [upd_ne n1D2]; exact eD1, upd_same, Nat.le_refl _, fun x z => absurd z (Nat.not_lt_zero _)⟩ (fun i H' h => SqL.of (h.choose_spec.1 _ _ (E2.gh _ _ g2p))) ?_ ?_
        · rintro i y H4 ey ⟨k2, sm, e1, e2, hk, hval2⟩
          obtain ⟨d, ed, ry⟩ := ra2.getV ey
          obtain ⟨pl, epl, rfl⟩ : ∃ pl, (none :: allP rs rs.length)[i]? = some pl ∧ d = pd pl := by
            rw [List.getElem?_map] at ed
            cases z : (none :: allP rs rs.length)[i]? with
            | none => rw [z] at ed; cases ed
            | some m => rw [z] at ed; exact ⟨m, rfl, (Option.some.inj ed).symm⟩
          have okp : okAny rs pl := by
            rcases List.mem_cons.mp (List.mem_of_getElem? epl) with z | z
            · rw [z]; trivial
            · exact allP_ok _ (Nat.le_refl _) _ z
          have hi : i < 97 := by
            have z := (List.getElem?_eq_some_iff.mp ey).1
            rw [List.length_append, List.length_singleton] at z
            omega
          refine ⟨rfl, ?_⟩
          refine ⟨_, rfl, y, pl, rfl, ry.mono (E2.gh.trans sm), okp.okw ok, _, rfl, k2, .inr (mkS (pwL pl)), rfl, e2, small1000 (by omega), ?_⟩
          refine ⟨putK k2 (.inr (mkS (pwL pl))) y, fun b o e => ?_, ?_, upd_same, ?_, fun j hj pl' e' => ?_⟩
          · rw [upd_ne (ne_of_none (sm3 _ _ e) nD2)]
            exact sm b o e
          · rw [upd_ne n1D2]
            exact e1
          · have := length_putK k2 (.inr (mkS (pwL pl))) y
            omega
          · rw [valV_put]
            by_cases hpp : pl' = pl
            · subst hpp
              exact ⟨y, if_pos rfl, ry⟩
            · rw [if_neg (fun z => hpp (pwL_inj (mkS_inj (Sum.inr.inj z))))]
              have hji : j ≠ i := by
                rintro rfl
                rw [epl] at e'
                exact hpp (Option.some.inj e').symm
              exact hval2 j (by omega) pl' e'
        · rintro H4 ⟨k2, sm, e1, e2, hk, hval2⟩
          refine ⟨(by show 2 ≤ sizeLine; decide), fun tt nt => ?_⟩
          have hD1 : H2 D1 = none := nD1
          have hD2 : H2 D2 = none := sm3.free nD2
          have X1 : Xt [] G2 H2 (absorb G2 H2 H4) H4 := Xt.absorb E2.gh sm
          have a1 : absorb G2 H2 H4 D1 = some (.dK k1) := (absorb_new hD1).trans e1
          have a2 : absorb G2 H2 H4 D2 = some (.dK k2) := (absorb_new hD2).trans e2
          have X2 := (E2.trans X1).new (o := .tup [.ref D1, .ref D2]) nt
          have gt : absorb G2 H2 H4 tt = none := X1.gh.free nt
          have sl := same_new (o := .tup [V.ref D1, V.ref D2]) gt
          refine q _ _ _ X2 ⟨tt, D1, D2, rfl, upd_same, ⟨k1, sl _ _ a1, hval⟩, ⟨k2, sl _ _ a2, fun pl hpl => ?_⟩⟩
          have hm : pl ∈ none :: allP rs rs.length := by
            cases pl with
            | none => exact List.mem_cons_self ..
            | some hr' =>
              obtain ⟨h, r⟩ := hr'
              obtain ⟨m, em, lt⟩ := hpl
              exact List.mem_cons_of_mem _ (allP_mem em lt _ (List.getElem?_eq_some_iff.mp em).1)
          obtain ⟨j, hj, ej⟩ := List.getElem_of_mem hm
          have hl : j < ([V.non] ++ acc).length := by
            rw [ra2.len, List.length_map]
            exact hj
          obtain ⟨y, ev, ry⟩ := hval2 j hl pl (by rw [List.getElem?_eq_getElem hj, ej])
          exact ⟨y, ev, ry.mono (X1.gg.trans sl)⟩
end
end KJ
set_option maxHeartbeats 4000000
namespace KJ
open PySem PySem.Spec PyProof.Rows L2 TL
theorem split_of {s : Nat} {ps : List (List Nat)} (hs : s < 256) (hne : ps ≠ []) (hp : ∀ p ∈ ps, s ∉ p) : Txt.split (mkS (joinL [s] ps)) (mkS [s]) = ps.map mkS := by
  refine map_tl_inj ?_
  rw [split_spl _ (mkS [s]) (by simp [tl_mkS]) (kind_ok (by show (#[s] : Array Nat).all (· < 256) = true; simp [hs])), tl_mkS, tl_mkS, spl_join hne hp, List.map_map]
  have e : (tl ∘ mkS) = id := rfl
  rw [e, List.map_id]
theorem pwL_free {p : Place} {s : Nat} (h : s < 45 ∨ 57 < s) : s ∉ pwL p := by
  cases p with
  | none =>
    show s ∉ [45]
    simp
    omega
  | some q =>
    obtain ⟨a, r⟩ := q
    show s ∉ numL a ++ 46 :: numL r
    rw [List.mem_append, List.mem_cons]
    have h1 : s ∉ numL a := numL_free (by omega)
    have h2 : s ∉ numL r := numL_free (by omega)
    rintro (z | z | z)
    · exact h1 z
    · omega
    · exact h2 z
theorem hwL_free {h : Hang} {s : Nat} (e : s < 45 ∨ 58 < s) : s ∉ hwL h := by
  show s ∉ numL h.1 ++ 58 :: pwL h.2
  rw [List.mem_append, List.mem_cons]
  have h1 : s ∉ numL h.1 := numL_free (by omega)
  have h2 : s ∉ pwL h.2 := pwL_free (by omega)
  rintro (z | z | z)
  · exact h1 z
  · omega
  · exact h2 z
theorem split_hw (h : Hang) : Txt.split (mkS (hwL h)) (Str.ofString ":") = [mkS (numL h.1), mkS (pwL h.2)] := by
  rw [lit_col]
  have z := split_of (s := 58) (ps := [numL h.1, pwL h.2]) (by decide) (by simp) (by
    intro p hp
    rcases List.mem_cons.mp hp with rfl | hp
    · exact numL_free (by omega)
    · rw [List.mem_singleton.mp hp]
      exact pwL_free (by omega))
  exact z
theorem dget_k {H : Hp} {d : Addr} {k : List (Key × V)} {s : Str} {v : V} (e : H d = some (.dK k)) (h : valV k (.inr s) = some v) : DGet H d (.str s) (some v) := by
  have z := DGet.k (k := Sum.inr s) e
  rw [h] at z
  exact z
theorem put_after {G1 H1 H2 : Hp} {p : Addr} {xs : List V} {x : Nat} {y : V} {g : Forest} {pl : Place} (s : Same G1 H1) (sm : Same H1 H2) (np : H1 p = none) (ep : H2 p = some (.tup (xs.set x y))) (rxs : RpA G1 xs (g.map pd)) (ry : Rp G1 y (pd pl)) :
    Rp (absorb G1 H1 H2) (.ref p) (fod (g.set x pl)) := by
  have X : Xt [] G1 H1 (absorb G1 H1 H2) H2 := Xt.absorb s sm
  refine .tup ((absorb_new np).trans ep) ?_
  have z := (rxs.mono X.gg).set x (ry.mono X.gg)
  rw [List.map_set]
  exact z
section
variable {P : Program} {w : World} {K : PySem.W.Frag} {mg : Str → Option Value} {base : Heap} {t1 t2 : Tok} {f : Addr} {fd : FuncData}
/-! ### forest_read -/
def sp_forest_read : Sp := fun vs H Q _ => ∃ (G : Hp) (vr : V) (d2 wa : Addr) (rs : List Nat) (g : Forest), vs = [vr, .ref d2, .ref wa] ∧ Same G H ∧ Rp G vr (rd rs) ∧ RsOk rs ∧ PlacesAt G d2 rs ∧ H wa = some (.lst (g.map fun p => V.str (mkS (pwL p)))) ∧ Good rs g ∧
  ∀ G' H' u, Xt [] G H G' H' → Rp G' u (fod g) → Q u H'
theorem ok_forest_read (T : Txt mg t1 t2) (c_is_forest : Cal P w K mg base 4 "is_forest" sp_is_forest) (F : FunT K "forest_read" s_forest_read f fd) : FnOk P w K mg base CX0 5 f fd ["rooms", "places", "words"] sp_forest_read := by
  refine F.ok sc_forest_read (fun vs H Q E h => ?_) (fun cdv A outer s H vs Q E hr h => ?_)
  · obtain ⟨G, vr, d2, wa, rs, g, rfl, _⟩ := h
    rfl
  · have hu := hu_of hr
    obtain ⟨G, vr, d2, wa, rs, g, rfl, sG, hv, ok, hp, hwa, gd, q⟩ := h
    obtain ⟨a, rfl, gA⟩ := rd_inv hv
    have ha := sG _ _ gA
    obtain ⟨k2, gd2, hk2⟩ := hp
    have hd2 := sG _ _ gd2
    have l24 : g.length ≤ 24 := by rw [gd.len]; exact ok.len
    have inw : ∀ {i : Nat} {x : V}, (g.map fun p => V.str (mkS (pwL p)))[i]? = some x → ∃ p, g[i]? = some p ∧ x = V.str (mkS (pwL p)) ∧ okAny rs p := fun {i x} e => by
      rw [List.getElem?_map] at e
      cases z : g[i]? with
      | none => rw [z] at e; cases e
      | some m => rw [z] at e; exact ⟨m, rfl, (Option.some.inj e).symm, (gd.ok _ _ z).any⟩
    refine ⟨_, (pss_cons (ps_if (PW.pt (pw_or (pt_cmpR op_ne (pe_callB call_len_seq (by rfl) T.len (by decide +kernel) (pa_cons (pv 2) pa_nil)) (pe_callB call_len_seq (by rfl) T.len (by decide +kernel) (pa_cons (pv 0) pa_nil)) (nomark _)) (pw_or1 (pt_not (pt_val (pe_callB (cr_all rfl) (by rfl) T.all (by decide +kernel) (pa_cons (pe_lc (own := [("word", 4)]) (g := gName 4) (tt := tYes) (by rfl) sc_forest_read.nd (pi_list (pv 2)) (blkOk_by (own := [("word", 4)]) (N := N_forest_read) (sc := defScope s_forest_read) (by decide +kernel)) (fun _ _ _ _ _ => (pg_name (i := 4) sc_forest_read.nd rfl (Or.inl rfl))) (fun _ _ _ _ _ => pts_nil) (fun _ _ _ _ _ => (pe_cmp (pc_din hu (pv 4) (pv 1)) rfl))) pa_nil))))))) (pss_one (ps_ret pe_non)) pss_nil)
      (pss_cons (ps_set (i := 3) sc_forest_read.nd rfl (Or.inl rfl) (pe_callTy call_tuple_of (by rfl) T.tuple (by decide +kernel) (pa_cons (pe_lc (own := [("word", 4)]) (g := gName 4) (tt := tYes) (by rfl) sc_forest_read.nd (pi_list (pv 2)) (blkOk_by (own := [("word", 4)]) (N := N_forest_read) (sc := defScope s_forest_read) (by decide +kernel)) (fun _ _ _ _ _ => (pg_name (i := 4) sc_forest_read.nd rfl (Or.inl rfl))) (fun _ _ _ _ _ => pts_nil) (fun _ _ _ _ _ => (pe_dget hu (pv 1) (pv 4) (fun _ _ => rfl)))) pa_nil)))
      (pss_one (ps_ret (pe_ifExp (pt_val (pe_c c_is_forest hr (by decide) rfl (pa_cons (pv 0) (pa_cons (pv 3) pa_nil)))) (pv 3) pe_non))))), ?_⟩
    refine ⟨_, rfl, wa, _, rfl, .inl (SqL.of hwa), _, rfl, a, _, rfl, .inr (SqT.of ha), rfl, _, rfl, iteNS (by rw [List.length_map, List.length_map, gd.len]) ?_⟩
    refine ⟨_, rfl, wa, rfl, ⟨_, SqL.of hwa⟩, fun D nD => ?_⟩
    refine lst_loop (xs := g.map fun p => V.str (mkS (pwL p))) (fun i H' => Same H H' ∧ H' D = some (.lst (List.replicate i (V.bl true)))) ⟨same_new nD, upd_same⟩ (fun i H' h => SqL.of (h.1 _ _ hwa)) ?_ ?_
    · rintro i x H1 ex ⟨sm, eD⟩
      obtain ⟨p, ep, rfl, okp⟩ := inw ex
      have hi := (List.getElem?_eq_some_iff.mp ep).1
      obtain ⟨y, ey, ry⟩ := hk2 p okp
      refine ⟨rfl, ?_⟩
      refine ⟨_, rfl, _, rfl, d2, some y, rfl, dget_k (sm _ _ hd2) ey, _, eD, ?_, fun b o e => ?_, ?_⟩
      · rw [List.length_replicate]
        exact small1000 (by omega)
      · rw [upd_ne (ne_of_none e nD)]
        exact sm b o e
      · rw [upd_same]
        show some (HO.lst (List.replicate i (V.bl true) ++ [V.bl true])) = _
        rw [← List.replicate_succ']
    · rintro H1 ⟨sm1, eD⟩
      have e1 : (List.replicate (g.map fun p => V.str (mkS (pwL p))).length true).all id = true := by simp
      refine ⟨D, List.replicate (g.map fun p => V.str (mkS (pwL p))).length true, rfl, SqL.of (by rw [eD, List.map_replicate]), _, rfl, ?_⟩
      rw [e1]
      refine iteF ?_
      -- the forest
      refine ⟨_, rfl, wa, rfl, ⟨_, SqL.of (sm1 _ _ hwa)⟩, fun D2 nD2 => ?_⟩
      refine lst_loop (xs := g.map fun p => V.str (mkS (pwL p))) (fun i H' => ∃ ys : List V, Same H1 H' ∧ H' D2 = some (.lst ys) ∧ RpA G ys ((g.take i).map pd)) ⟨[], same_new nD2, upd_same, .nil⟩ (fun i H' h => SqL.of (h.choose_spec.1 _ _ (sm1 _ _ hwa))) ?_ ?_
      · rintro i x H2 ex ⟨ys, sm, eD2, ra⟩
        obtain ⟨p, ep, rfl, okp⟩ := inw ex
        have hi := (List.getElem?_eq_some_iff.mp ep).1
        obtain ⟨y, ey, ry⟩ := hk2 p okp
        refine ⟨rfl, ?_⟩
        refine ⟨_, rfl, _, rfl, d2, y, rfl, dget_k (sm _ _ (sm1 _ _ hd2)) ey, _, eD2, ?_, ys ++ [y], fun b o e => ?_, upd_same, ?_⟩
        · rw [ra.len, List.length_map, List.length_take]
          exact small1000 (by omega)
        · rw [upd_ne (ne_of_none e nD2)]
          exact sm b o e
        · rw [List.take_add_one, ep, List.map_append]
          exact ra.snoc ry
      · rintro H2 ⟨ys, sm2, eD2, ra⟩
        have e2 : g.take (g.map fun p => V.str (mkS (pwL p))).length = g := List.take_of_length_le (by rw [List.length_map]; exact Nat.le_refl _)
        rw [e2] at ra
        refine ⟨D2, ys, rfl, .inl ⟨SqL.of eD2, fun l nl => ?_⟩⟩
        have sm3 : Same H (upd H2 l (.tup ys)) := (sm1.trans sm2).trans (same_new nl)
        have nl' : H l = none := (sm1.trans sm2).free nl
        have X1 : Xt [] G H (absorb G H (upd H2 l (.tup ys))) (upd H2 l (.tup ys)) := Xt.absorb sG sm3
        have rl : Rp (absorb G H (upd H2 l (.tup ys))) (.ref l) (fod g) := .tup ((absorb_new nl').trans upd_same) (ra.mono X1.gg)
        refine ⟨_, rfl, _, rfl, .ref a, .ref l, rs, g, rfl, hv.mono (sG.trans sm3), rl.mono X1.gh, ok, gd, fun H4 s4 => ⟨true, rfl, iteT ⟨_, rfl, ?_⟩⟩⟩
        exact q _ _ _ (X1.trans (Xt.same X1.gh s4)) rl
/-! ### hang_read -/
def sp_hang_read : Sp := fun vs H Q _ => ∃ (G : Hp) (v : V) (rs : List Nat) (h : Hang), vs = [v, .str (mkS (hwL h))] ∧ Same G H ∧ NamesAt G v rs ∧ RsOk rs ∧ h.1 < rs.length ∧ okAny rs h.2 ∧ ∀ G' H' u, Xt [] G H G' H' → Rp G' u (hd h) → Q u H'
theorem ok_hang_read (T : Txt mg t1 t2) (F : FunT K "hang_read" s_hang_read f fd) : FnOk P w K mg base CX0 1 f fd ["names", "word"] sp_hang_read := by
  refine F.ok sc_hang_read (fun vs H Q E h => ?_) (fun cdv A outer s H vs Q E hr h => ?_)
  · obtain ⟨G, v, rs, h, rfl, _⟩ := h
    rfl
  · have hu := hu_of hr
    obtain ⟨G, v, rs, h, rfl, sG, ⟨t, d1, d2, rfl, gT, ⟨k1, g1, hk1⟩, ⟨k2, g2, hk2⟩⟩, ok, hx, op, q⟩ := h
    have hT := sG _ _ gT
    have h1 := sG _ _ g1
    have h2 := sG _ _ g2
    obtain ⟨y, ey, ry⟩ := hk2 _ op
    have l24 := ok.len
    have l8 := hwL_len (h := h) (by omega) (op.okw ok)
    refine ⟨_, (pss_cons (ps_asg (pv 0) (pg_tup rfl (pgs_cons (pg_name (i := 2) sc_hang_read.nd rfl (Or.inl rfl)) (pgs_cons (pg_name (i := 3) sc_hang_read.nd rfl (Or.inl rfl)) pgs_nil))))
      (pss_cons (ps_set (i := 4) sc_hang_read.nd rfl (Or.inl rfl) (pe_split (pv 1) pe_str))
      (pss_cons (ps_if (PW.pt (pw_or (pt_cmpR op_ne (pe_callB call_len_seq (by rfl) T.len (by decide +kernel) (pa_cons (pv 4) pa_nil)) pe_int (nomark _)) (pw_or (pt_cmp (pc_dnotin hu (pe_ix (r := rIxL K) ix_list (pv 4) pe_int (fun _ _ => rfl)) (pv 2))) (pw_or1 (pt_cmp (pc_dnotin hu (pe_ix (r := rIxL K) ix_list (pv 4) pe_int (fun _ _ => rfl)) (pv 3))))))) (pss_one (ps_ret pe_non)) pss_nil)
      (pss_one (ps_ret (pe_tup (pa_cons (pe_dget hu (pv 2) (pe_ix (r := rIxL K) ix_list (pv 4) pe_int (fun _ _ => rfl)) (fun _ _ => rfl)) (pa_cons (pe_dget hu (pv 3) (pe_ix (r := rIxL K) ix_list (pv 4) pe_int (fun _ _ => rfl)) (fun _ _ => rfl)) pa_nil)))))))), ?_⟩
    refine ⟨_, rfl, t, _, rfl, SqT.of hT, rfl, _, _, rfl, _, _, rfl, rfl, ?_⟩
    refine ⟨_, rfl, ⟨_, rfl⟩, _, _, rfl, rfl, (by decide +kernel), ?_, fun p np => ?_⟩
    · rw [mkS_len]
      exact sz (by omega)
    rw [split_hw]
    have s1 : Same H (upd H p (.lst ([mkS (numL h.1), mkS (pwL h.2)].map V.str))) := same_new np
    have X1 : Xt [] G H G (upd H p (.lst ([mkS (numL h.1), mkS (pwL h.2)].map V.str))) := (Xt.refl sG).newM np
    have ep : (upd H p (.lst ([mkS (numL h.1), mkS (pwL h.2)].map V.str))) p = some (.lst [.str (mkS (numL h.1)), .str (mkS (pwL h.2))]) := upd_same
    revert s1 X1 ep
    generalize upd H p (.lst ([mkS (numL h.1), mkS (pwL h.2)].map V.str)) = H1
    intro s1 X1 ep
    have D1 : DGet H1 d1 (.str (mkS (numL h.1))) (some (.int (h.1 : Int))) := dget_k (s1 _ _ h1) (hk1 _ hx)
    have D2 : DGet H1 d2 (.str (mkS (pwL h.2))) (some y) := dget_k (s1 _ _ h2) ey
    refine ⟨_, rfl, p, _, rfl, .inl (SqL.of ep), rfl, _, rfl, iteNS rfl ?_⟩
    refine ⟨_, rfl, p, _, 0, _, rfl, rfl, SqL.of ep, atI_nat (j := 0) rfl, _, rfl, d1, _, rfl, D1, _, rfl, iteF ?_⟩
    refine ⟨_, rfl, p, _, 1, _, rfl, rfl, SqL.of ep, atI_nat (j := 1) rfl, _, rfl, d2, _, rfl, D2, _, rfl, iteF ?_⟩
    refine ⟨_, rfl, _, rfl, p, _, 0, _, rfl, rfl, SqL.of ep, atI_nat (j := 0) rfl, d1, _, rfl, D1, _, rfl, _, rfl, p, _, 1, _, rfl, rfl, SqL.of ep, atI_nat (j := 1) rfl, d2, _, rfl, D2, (by show 2 ≤ sizeLine; decide), fun tt nt => ?_⟩
    have gt : G tt = none := X1.gh.free nt
    exact q _ _ _ (X1.new nt) (.tup upd_same (.cons (.int _) (.cons (ry.mono (same_new gt)) .nil)))
/-! ### moves -/
theorem inV_not {x : Nat} {l : List Nat} (h : x ∉ l) : inV (.int (x : Int)) (l.map fun n : Nat => V.int (n : Int)) = false := by
  unfold inV
  rw [List.any_eq_false]
  intro v hv
  obtain ⟨n, hn, rfl⟩ := List.mem_map.mp hv
  show ¬ (((n : Int) == (x : Int)) = true)
  intro z
  have e : (n : Int) = (x : Int) := eq_of_beq z
  have e2 : n = x := by omega
  exact h (e2 ▸ hn)
theorem flat_ints (l : List Nat) : (l.map fun n : Nat => V.int (n : Int)).all flatV = true := by
  rw [List.all_eq_true]
  intro v hv
  obtain ⟨n, hn, rfl⟩ := List.mem_map.mp hv
  rfl
def sp_moves : Sp := fun vs H Q _ => ∃ (vr v y : V) (rs : List Nat) (g : Forest) (x : Nat) (p : Place), vs = [vr, v, .int (x : Int), y] ∧ Rp H vr (rd rs) ∧ Rp H v (fod g) ∧ Rp H y (pd p) ∧ g.length ≤ 24 ∧ x < g.length ∧ g[x]? ≠ some p ∧ okP rs x p ∧ mayGo g x p ∧ ∀ H', Same H H' → Q (.bl true) H'
theorem ok_moves (T : Txt mg t1 t2) (c_is_place : Cal P w K mg base 2 "is_place" sp_is_place) (c_around : Cal P w K mg base 1 "around" sp_around) (F : FunT K "moves" s_moves f fd) : FnOk P w K mg base CX0 3 f fd ["rooms", "forest", "x", "place"] sp_moves := by
  refine F.ok sc_moves (fun vs H Q E h => ?_) (fun cdv A outer s H vs Q E hr h => ?_)
  · obtain ⟨vr, v, y, rs, g, x, p, rfl, _⟩ := h
    rfl
  · have hu64 := hu64_of hr
    obtain ⟨vr, v, y, rs, g, x, p, rfl, hvr, hv, hy, l24, hx, ne, okp, may, q⟩ := h
    obtain ⟨a, xs, rfl, ha, hxs, hlen⟩ := fd_inv hv
    obtain ⟨z, ez, rz⟩ := fd_at hxs (List.getElem?_eq_getElem hx)
    refine ⟨_, (pss_cons (ps_if (PW.pt (pw_or (pt_cmpR (r := rEqD K) (op_eqD hu64) (pv 3) (pe_ix (r := rIxT K) ix_tup (pv 1) (pv 2) (fun _ _ => rfl)) (nomark _)) (pw_or1 (pt_not (pt_val (pe_c c_is_place hr (by decide) rfl (pa_cons (pv 0) (pa_cons (pv 2) (pa_cons (pv 3) pa_nil))))))))) (pss_one (ps_ret pe_bl)) pss_nil)
      (pss_one (ps_ret (pe_or (pe_cmpR op_isN (pv 3) pe_non (nomark _)) (pe_one (pe_cmpR (r := rIn K true) op_notIn_seq (pv 2) (pe_c c_around hr (by decide) rfl (pa_cons (pv 1) (pa_cons (pe_ix (r := rIxT K) ix_tup (pv 3) pe_int (fun _ _ => rfl)) pa_nil))) (by rfl))))))), ?_⟩
    have e1 : PyData.eqv (pd p) (pd g[x]) = false := by
      rw [pd_eqv]
      exact decide_eq_false fun e => ne (by rw [e]; exact List.getElem?_eq_getElem hx)
    refine ⟨_, rfl, _, rfl, _, rfl, a, _, _, _, rfl, rfl, SqT.of ha, atI_nat ez, _, _, hy.dp, rz.dp, (lo.pd _).shaped (by decide), (lo.pd _).shaped (by decide), _, rfl, ?_⟩
    rw [e1]
    refine iteF ?_
    refine ⟨_, rfl, _, rfl, _, rfl, vr, y, rs, x, p, rfl, hvr, hy, okp, true, rfl, iteF ?_⟩
    cases p with
    | none =>
      cases pd_none hy
      exact ⟨_, rfl, rfl, _, rfl, iteD rfl (q _ (Same.refl _))⟩
    | some hr' =>
      obtain ⟨h, r⟩ := hr'
      obtain ⟨b, rfl, hb⟩ := pd_some hy
      obtain ⟨nx, l, al, nl⟩ := may
      refine ⟨_, rfl, rfl, _, rfl, iteDF (by intro z; cases z) ?_⟩
      refine ⟨_, rfl, _, rfl, _, rfl, b, _, 0, _, rfl, rfl, SqT.of hb, atI_nat (j := 0) rfl, .ref a, g, h, l, rfl, hv, l24, al, fun H1 p1 s1 e2 => ⟨p1, _, rfl, .inr (SqT.of e2), rfl, flat_ints l, ?_⟩⟩
      show Q (V.bl (!inV (.int (x : Int)) (l.map fun n : Nat => V.int (n : Int)))) H1
      rw [inV_not nl]
      exact q _ s1
/-! ### behind -/
theorem hang_at {G : Hp} {xs : List V} {hs : List Hang} {i : Nat} {y : V} (ra : RpA G xs (hs.map hd)) (e : xs[i]? = some y) : ∃ h, hs[i]? = some h ∧ Rp G y (hd h) := by
  obtain ⟨d, ed, ry⟩ := ra.getV e
  rw [List.getElem?_map] at ed
  cases z : hs[i]? with
  | none => rw [z] at ed; cases ed
  | some m =>
    rw [z] at ed
    cases Option.some.inj ed
    exact ⟨m, rfl, ry⟩
theorem behindL_take {g : Forest} {hs : List Hang} {i : Nat} {h : Hang} (e : hs[i]? = some h) : behindL g (hs.take (i + 1)) = (behindL g (hs.take i)).set h.1 h.2 := by
  rw [List.take_add_one, e, behindL_app]
  rfl
def sp_behind : Sp := fun vs H Q _ => ∃ (G : Hp) (v vh : V) (g : Forest) (hs : List Hang), vs = [v, vh] ∧ Same G H ∧ Rp G v (fod g) ∧ Rp G vh (.tuple (hs.map hd)) ∧ (∀ h ∈ hs, h.1 < g.length) ∧ g.length ≤ 24 ∧ ∀ G' H' u, Xt [] G H G' H' → Rp G' u (fod (behindL g hs)) → Q u H'
theorem ok_behind (T : Txt mg t1 t2) (c_put : Cal P w K mg base 1 "put" sp_put) (F : FunT K "behind" s_behind f fd) : FnOk P w K mg base CX0 2 f fd ["forest", "hangs"] sp_behind := by
  refine F.ok sc_behind (fun vs H Q E h => ?_) (fun cdv A outer s H vs Q E hr h => ?_)
  · obtain ⟨G, v, vh, g, hs, rfl, _⟩ := h
    rfl
  · obtain ⟨G, v, vh, g, hs, rfl, sG, hv, hvh, hlt, l24, q⟩ := h
    obtain ⟨b, ys, rfl, gb, hys⟩ := Rp.tup_inv hvh
    have hb := sG _ _ gb
    refine ⟨_, (pss_cons (ps_for PassesOwn.never rfl (pi_tup (pv 1)) (pg_tup rfl (pgs_cons (pg_name (i := 2) sc_behind.nd rfl (Or.inl rfl)) (pgs_cons (pg_name (i := 3) sc_behind.nd rfl (Or.inl rfl)) pgs_nil))) (pss_one (ps_set (i := 0) sc_behind.nd rfl (Or.inl rfl) (pe_c c_put hr (by decide) rfl (pa_cons (pv 0) (pa_cons (pv 2) (pa_cons (pv 3) pa_nil)))))))
      (pss_one (ps_ret (pv 0)))), ?_⟩
    refine ⟨_, rfl, b, rfl, ⟨_, SqT.of hb⟩, for_tup (xs := ys) (fun i σ H' => ∃ (G' : Hp) (v' : V) (y2 y3 : Option V), σ = [some v', some (.ref b), y2, y3] ∧ Xt [] G H G' H' ∧ Rp G' v' (fod (behindL g (hs.take i)))) ⟨G, v, none, none, rfl, Xt.refl sG, hv⟩ (fun i σ H' _ ⟨_, _, _, _, _, X, _⟩ => SqT.of (X.hk hb)) ?_ ?_⟩
    · rintro i y σ H1 ey ⟨G1, v', y2, y3, rfl, X1, r1⟩
      obtain ⟨h, eh, ry⟩ := hang_at hys ey
      obtain ⟨c, z, rfl, gc, rz⟩ := hd_inv ry
      obtain ⟨a, xs, rfl, ga, hxs, hlen⟩ := fd_inv r1
      rw [behindL_len] at hlen
      have hh := hlt h (List.mem_of_getElem? eh)
      refine ⟨c, _, rfl, SqT.of (X1.gh _ _ (X1.gg _ _ gc)), rfl, _, _, rfl, _, _, rfl, rfl, ?_⟩
      refine ⟨_, rfl, _, rfl, _, rfl, a, xs, h.1, z, rfl, X1.gh _ _ ga, by omega, by omega, fun H2 p s2 np ep => ?_⟩
      have r2 := put_after (g := behindL g (hs.take i)) X1.gh s2 np ep hxs (rz.mono X1.gg)
      exact ⟨_, _, _, _, rfl, X1.trans (Xt.absorb X1.gh s2), by rw [behindL_take eh]; exact r2⟩
    · rintro σ H1 ⟨G1, v', y2, y3, rfl, X1, r1⟩
      have e1 : hs.take ys.length = hs := List.take_of_length_le (by rw [hys.len, List.length_map]; exact Nat.le_refl _)
      rw [e1] at r1
      exact ⟨_, rfl, q _ _ _ X1 r1⟩
end
end KJ
set_option maxHeartbeats 4000000
namespace KJ
open PySem PySem.Spec PyProof.Rows L2 TL
theorem hangsOk_at {rs : List Nat} : ∀ {hs : List Hang} {seen : List Nat} {g : Forest} {i : Nat} {h : Hang}, hangsOk rs seen g hs → hs[i]? = some h →
    h.1 < (behindL g (hs.take i)).length ∧ h.1 ∉ (hs.take i).map (·.1) ∧ h.1 ∉ seen ∧ (behindL g (hs.take i))[h.1]? ≠ some h.2 ∧ okP rs h.1 h.2 ∧ mayGo (behindL g (hs.take i)) h.1 h.2
  | [], _, _, _, _, _, e => by simp at e
  | (x, p) :: r, seen, g, 0, h, k, e => by
    cases Option.some.inj e
    obtain ⟨a, b, c, d, m, _⟩ := k
    exact ⟨a, by simp, b, c, d, m⟩
  | (x, p) :: r, seen, g, i + 1, h, k, e => by
    obtain ⟨a, b, c, d, m, k2⟩ := k
    obtain ⟨h1, h2, h3, h4, h5, h6⟩ := hangsOk_at (i := i) k2 e
    refine ⟨h1, ?_, fun z => h3 (List.mem_cons_of_mem _ z), h4, h5, h6⟩
    rw [List.take_succ_cons, List.map_cons, List.mem_cons]
    rintro (z | z)
    · exact h3 (by rw [z]; exact List.mem_cons_self ..)
    · exact h2 z
theorem hangsOk_take {rs : List Nat} : ∀ {hs : List Hang} {seen : List Nat} {g : Forest} (i : Nat), hangsOk rs seen g hs → hangsOk rs seen g (hs.take i)
  | [], _, _, _, k => by rw [List.take_nil]; exact k
  | (x, p) :: r, seen, g, 0, _ => trivial
  | (x, p) :: r, seen, g, i + 1, k => by
    obtain ⟨a, b, c, d, m, k2⟩ := k
    exact ⟨a, b, c, d, m, hangsOk_take i k2⟩
theorem ifF_of {c : Bool} {A B : Prop} (h : c = false) (b : B) : if c = true then A else B := by
  rw [h]
  exact iteF b
theorem ifT_of {c : Bool} {A B : Prop} (h : c = true) (a : A) : if c = true then A else B := by
  rw [h]
  exact iteT a
section
variable {P : Program} {w : World} {K : PySem.W.Frag} {mg : Str → Option Value} {base : Heap} {t1 t2 : Tok} {f : Addr} {fd : FuncData}
/-! ### hangs_read -/
def sp_hangs_read : Sp := fun vs H Q _ => ∃ (G : Hp) (vr vn v : V) (wa : Addr) (rs : List Nat) (g : Forest) (hs : List Hang), vs = [vr, vn, v, .ref wa] ∧ Same G H ∧ Rp G vr (rd rs) ∧ RsOk rs ∧ NamesAt G vn rs ∧ Rp G v (fod g) ∧ Good rs g ∧
  H wa = some (.lst (hs.map fun h => V.str (mkS (hwL h)))) ∧ hangsOk rs [] g hs ∧ hs ≠ [] ∧ hs.length ≤ 24 ∧ ∀ G' H' u, Xt [] G H G' H' → Rp G' u (.tuple (hs.map hd)) → Q u H'
theorem ok_hangs_read (T : Txt mg t1 t2) (c_hang_read : Cal P w K mg base 1 "hang_read" sp_hang_read) (c_moves : Cal P w K mg base 3 "moves" sp_moves) (c_put : Cal P w K mg base 1 "put" sp_put) (F : FunT K "hangs_read" s_hangs_read f fd) : FnOk P w K mg base CX0 4 f fd ["rooms", "names", "forest", "words"] sp_hangs_read := by
  refine F.ok sc_hangs_read (fun vs H Q E h => ?_) (fun cdv A outer s H vs Q E hr h => ?_)
  · obtain ⟨G, vr, vn, v, wa, rs, g, hs, rfl, _⟩ := h
    rfl
  · obtain ⟨G, vr, vn, v, wa, rs, g, hs, rfl, sG, hvr, ok, hn, hv, gd, hwa, hok, hne, l24, q⟩ := h
    have lg24 : g.length ≤ 24 := by rw [gd.len]; exact ok.len
    refine ⟨_, (pss_cons (ps_set (i := 4) sc_hangs_read.nd rfl (Or.inl rfl) (pe_lst pa_nil))
      (pss_cons (ps_for PassesOwn.never rfl (pi_list (pv 3)) (pg_name (i := 5) sc_hangs_read.nd rfl (Or.inl rfl)) (pss_cons (ps_set (i := 6) sc_hangs_read.nd rfl (Or.inl rfl) (pe_c c_hang_read hr (by decide) rfl (pa_cons (pv 1) (pa_cons (pv 5) pa_nil))))
      (pss_cons (ps_if (PW.pt (pw_or (pt_cmpR op_isN (pv 6) pe_non (nomark _)) (pw_or (pt_cmpR (r := rIn K false) op_in_seq (pe_ix (r := rIxT K) ix_tup (pv 6) pe_int (fun _ _ => rfl)) (pe_lc (own := [("x", 7), ("_", 8)]) (g := gTup K 2 (gCons (gName 7) (gCons (gName 8) gNil))) (tt := tYes) (by rfl) sc_hangs_read.nd (pi_list (pv 4)) (blkOk_by (own := [("x", 7), ("_", 8)]) (N := N_hangs_read) (sc := defScope s_hangs_read) (by decide +kernel)) (fun _ _ _ _ _ => (pg_tup rfl (pgs_cons (pg_name (i := 7) sc_hangs_read.nd rfl (Or.inl rfl)) (pgs_cons (pg_name (i := 8) sc_hangs_read.nd rfl (Or.inl rfl)) pgs_nil)))) (fun _ _ _ _ _ => pts_nil) (fun _ _ _ _ _ => (pv 7))) (by rfl)) (pw_or1 (pt_not (pt_val (pe_c c_moves hr (by decide) rfl (pa_cons (pv 0) (pa_cons (pv 2) (pa_cons (pe_ix (r := rIxT K) ix_tup (pv 6) pe_int (fun _ _ => rfl)) (pa_cons (pe_ix (r := rIxT K) ix_tup (pv 6) pe_int (fun _ _ => rfl)) pa_nil))))))))))) (pss_one (ps_ret pe_non)) pss_nil)
      (pss_cons (ps_set (i := 2) sc_hangs_read.nd rfl (Or.inl rfl) (pe_c c_put hr (by decide) rfl (pa_cons (pv 2) (pa_cons (pe_ix (r := rIxT K) ix_tup (pv 6) pe_int (fun _ _ => rfl)) (pa_cons (pe_ix (r := rIxT K) ix_tup (pv 6) pe_int (fun _ _ => rfl)) pa_nil)))))
      (pss_one (ps_expr (pe_bm PySem.F.plainAttrs_list PySem.F.slot_list_append PySem.F.type_list_append mt_append (pv 4) (pa_cons (pv 6) pa_nil))))))))
      (pss_one (ps_ret (pe_ifExp (pt_truth (pv 4) (by intro _; rfl)) (pe_callTy call_tuple_of (by rfl) T.tuple (by decide +kernel) (pa_cons (pv 4) pa_nil)) pe_non))))), ?_⟩
    refine ⟨Nat.zero_le _, fun o no => ?_⟩
    have E0 : Xt [] G H G (upd H o (.lst [])) := (Xt.refl sG).newM no
    refine ⟨_, rfl, wa, rfl, ⟨_, SqL.of (E0.hk hwa)⟩, for_list (xs := hs.map fun h => V.str (mkS (hwL h))) (fun i σ H' => ∃ (G' : Hp) (v' : V) (acc : List V) (y5 y6 : Option V), σ = [some vr, some vn, some v', some (.ref wa), some (.ref o), y5, y6, none, none] ∧ Xt [] G H G' H' ∧
      Rp G' v' (fod (behindL g (hs.take i))) ∧ H' o = some (.lst acc) ∧ G' o = none ∧ RpA G' acc ((hs.take i).map hd)) ⟨G, v, [], none, none, rfl, E0, hv, upd_same, sG.free no, .nil⟩ (fun i σ H' _ h => ?_) ?_ ?_⟩
    · obtain ⟨_, _, _, _, _, _, X, _⟩ := h
      exact SqL.of (X.hk hwa)
    · rintro i wv σ H1 ew ⟨G1, v', acc, y5, y6, rfl, X1, r1, eo, go, racc⟩
      obtain ⟨h, eh, rfl⟩ : ∃ h, hs[i]? = some h ∧ wv = V.str (mkS (hwL h)) := by
        rw [List.getElem?_map] at ew
        cases z : hs[i]? with
        | none => rw [z] at ew; cases ew
        | some m => rw [z] at ew; exact ⟨m, rfl, (Option.some.inj ew).symm⟩
      have hi := (List.getElem?_eq_some_iff.mp eh).1
      obtain ⟨hx, hnot, _, hdiff, hokp, hmay⟩ := hangsOk_at hok eh
      have hx' : h.1 < g.length := by rw [behindL_len] at hx; exact hx
      -- hang = hang_read(names, word)
      refine ⟨_, rfl, _, rfl, G1, vn, rs, h, rfl, X1.gh, hn.mono X1.gg, ok, by rw [← gd.len]; exact hx', hokp.any, fun G2 H2 u X2 ru => ?_⟩
      obtain ⟨c, z, rfl, gc, rz⟩ := hd_inv ru
      have hc := X2.gh _ _ gc
      have eo2 := X2.hk eo
      have go2 := X2.nn _ _ eo go
      -- if hang is None or hang[0] in [x for x, _ in hangs] ..
      refine ⟨_, rfl, rfl, _, rfl, iteDF (by intro z; cases z) ?_⟩
      refine ⟨_, rfl, c, _, 0, _, rfl, rfl, SqT.of hc, atI_nat (j := 0) rfl, _, rfl, o, rfl, ⟨_, SqL.of eo2⟩, fun D nD => ?_⟩
      refine lst_loop (xs := acc) (fun j H' => Same H2 H' ∧ H' D = some (.lst ((((hs.take i).map (·.1)).take j).map fun n : Nat => V.int (n : Int)))) ⟨same_new nD, upd_same⟩ (fun j H' h => SqL.of (h.1 _ _ eo2)) ?_ ?_
      · rintro j y H3 ey ⟨sm, eD⟩
        obtain ⟨h', eh', ry⟩ := hang_at racc ey
        obtain ⟨c', z', rfl, gc', rz'⟩ := hd_inv ry
        have hc' := sm _ _ (X2.gh _ _ (X2.gg _ _ gc'))
        have hj := (List.getElem?_eq_some_iff.mp eh').1
        rw [List.length_take] at hj
        refine ⟨c', _, rfl, SqT.of hc', rfl, _, _, rfl, _, _, rfl, rfl, rfl, _, rfl, _, eD, ?_, fun b ob e => ?_, ?_⟩
        · rw [List.length_map, List.length_take]
          exact small1000 (by omega)
        · rw [upd_ne (ne_of_none e nD)]
          exact sm b ob e
        · rw [upd_same, List.take_add_one, List.getElem?_map, eh', List.map_append]
          rfl
      · rintro H3 ⟨sm3, eD⟩
        have e1 : ((hs.take i).map (·.1)).take acc.length = (hs.take i).map (·.1) := List.take_of_length_le (by rw [racc.len, List.length_map, List.length_map]; exact Nat.le_refl _)
        rw [e1] at eD
        refine ⟨D, _, rfl, .inl (SqL.of eD), rfl, flat_ints _, _, rfl, ?_⟩
        refine ifF_of (inV_not hnot) ?_
        have hc3 := sm3 _ _ hc
        have s13 : Same G2 H3 := X2.gh.trans sm3
        refine ⟨_, rfl, _, rfl, _, rfl, c, _, 0, _, rfl, rfl, SqT.of hc3, atI_nat (j := 0) rfl, _, rfl, c, _, 1, _, rfl, rfl, SqT.of hc3, atI_nat (j := 1) rfl,
          vr, v', z, rs, behindL g (hs.take i), h.1, h.2, rfl, hvr.mono ((X1.gg.trans X2.gg).trans s13), r1.mono (X2.gg.trans s13), rz.mono s13, by rw [behindL_len]; exact lg24, hx, hdiff, hokp, hmay, fun H4 s4 => ⟨true, rfl, iteF ?_⟩⟩
        -- forest = put(forest, hang[0], hang[1])
        have hc4 := s4 _ _ hc3
        obtain ⟨a, xs, rfl, ga, hxs, hlen⟩ := fd_inv r1
        rw [behindL_len] at hlen
        have s24 : Same H2 H4 := sm3.trans s4
        have X4 : Xt [] G1 H1 G2 H4 := X2.trans (Xt.same X2.gh s24)
        refine ⟨_, rfl, _, rfl, c, _, 0, _, rfl, rfl, SqT.of hc4, atI_nat (j := 0) rfl, _, rfl, c, _, 1, _, rfl, rfl, SqT.of hc4, atI_nat (j := 1) rfl,
          a, xs, h.1, z, rfl, X4.gh _ _ (X4.gg _ _ ga), by omega, by omega, fun H5 p s5 np ep => ?_⟩
        have X5 : Xt [] G1 H1 (absorb G2 H4 H5) H5 := X4.trans (Xt.absorb X4.gh s5)
        have r5 := put_after (g := behindL g (hs.take i)) X4.gh s5 np ep (hxs.mono X4.gg) rz
        have eo5 := X5.hk eo
        have go5 := X5.nn _ _ eo go
        -- hangs.append(hang)
        refine ⟨_, rfl, .inl ⟨rfl, _, SqL.of eo5⟩, _, rfl, o, _, _, rfl, rfl, eo5, ?_, ?_⟩
        · rw [racc.len, List.length_map, List.length_take]
          exact small1000 (by omega)
        · have s25 : Same G2 (absorb G2 H4 H5) := (Xt.absorb (M := []) X4.gh s5).gg
          refine ⟨_, _, acc ++ [.ref c], _, _, rfl, (X1.trans X5).mut go5 (.inr no), by rw [behindL_take eh]; exact r5, upd_same, go5, ?_⟩
          rw [List.take_add_one, eh, List.map_append]
          exact (racc.mono X5.gg).snoc (ru.mono s25)
    · rintro σ H1 ⟨G1, v', acc, y5, y6, rfl, X1, r1, eo, go, racc⟩
      have e1 : hs.take (hs.map fun h => V.str (mkS (hwL h))).length = hs := List.take_of_length_le (by rw [List.length_map]; exact Nat.le_refl _)
      rw [e1] at racc
      have ne : acc.isEmpty = false := by
        cases acc with
        | nil =>
          have z := racc.len
          rw [List.length_map] at z
          exact absurd (List.length_eq_zero_iff.mp z.symm) hne
        | cons _ _ => rfl
      refine ⟨_, rfl, !acc.isEmpty, .inl ⟨acc, SqL.of eo, rfl⟩, ifT_of (by rw [ne]; rfl) ?_⟩
      refine ⟨_, rfl, o, _, rfl, .inl ⟨SqL.of eo, fun l nl => ?_⟩⟩
      have gl : G1 l = none := X1.gh.free nl
      exact q _ _ _ (X1.new nl) (.tup upd_same (racc.mono (same_new gl)))
/-! ### closed -/
inductive Pend where
  | op (hs : List Hang)
  | ly (g : Forest)
def pnd : Option Pend → PyData
  | none => .none
  | some (.op hs) => .tuple [.str (Str.ofString "open"), .tuple (hs.map hd)]
  | some (.ly g) => .tuple [.str (Str.ofString "lay"), fod g]
def closedL (g : Forest) : Pend → Forest
  | .op hs => behindL g hs
  | .ly t => t
def pendOk (rs : List Nat) (g : Forest) : Option Pend → Prop
  | none => True
  | some (.op hs) => hangsOk rs [] g hs
  | some (.ly t) => Good rs t
theorem hangsOk_lt {rs : List Nat} : ∀ {hs : List Hang} {seen : List Nat} {g : Forest}, hangsOk rs seen g hs → ∀ h ∈ hs, h.1 < g.length
  | [], _, _, _, h, m => absurd m List.not_mem_nil
  | (x, p) :: r, seen, g, k, h, m => by
    obtain ⟨a, b, c, d, e, k2⟩ := k
    rcases List.mem_cons.mp m with rfl | m
    · exact a
    · have z := hangsOk_lt k2 h m
      rw [List.length_set] at z
      exact z
def sp_closed : Sp := fun vs H Q _ => ∃ (G : Hp) (v vp : V) (rs : List Nat) (g : Forest) (pn : Pend), vs = [v, vp] ∧ Same G H ∧ Rp G v (fod g) ∧ Rp G vp (pnd (some pn)) ∧ pendOk rs g (some pn) ∧ g.length ≤ 24 ∧ ∀ G' H' u, Xt [] G H G' H' → Rp G' u (fod (closedL g pn)) → Q u H'
theorem ok_closed (T : Txt mg t1 t2) (c_behind : Cal P w K mg base 2 "behind" sp_behind) (F : FunT K "closed" s_closed f fd) : FnOk P w K mg base CX0 3 f fd ["forest", "pending"] sp_closed := by
  refine F.ok sc_closed (fun vs H Q E h => ?_) (fun cdv A outer s H vs Q E hr h => ?_)
  · obtain ⟨G, v, vp, rs, g, pn, rfl, _⟩ := h
    rfl
  · obtain ⟨G, v, vp, rs, g, pn, rfl, sG, hv, hp, pok, l24, q⟩ := h
    refine ⟨_, (pss_cons (ps_if (pt_cmpR op_eq (pe_ix (r := rIxT K) ix_tup (pv 1) pe_int (fun _ _ => rfl)) pe_str (nomark _)) (pss_one (ps_ret (pe_ix (r := rIxT K) ix_tup (pv 1) pe_int (fun _ _ => rfl)))) pss_nil)
      (pss_one (ps_ret (pe_c c_behind hr (by decide) rfl (pa_cons (pv 0) (pa_cons (pe_ix (r := rIxT K) ix_tup (pv 1) pe_int (fun _ _ => rfl)) pa_nil)))))), ?_⟩
    cases pn with
    | op hs =>
      obtain ⟨b, xs, rfl, gb, rx⟩ := Rp.tup_inv (ds := [.str (Str.ofString "open"), .tuple (hs.map hd)]) hp
      cases rx with
      | cons r1 rx =>
        cases rx with
        | cons r2 rx =>
          cases rx
          cases r1.str_inv
          refine ⟨_, rfl, b, _, 0, _, rfl, rfl, SqT.of (sG _ _ gb), atI_nat (j := 0) rfl, rfl, _, rfl, iteDF (by decide +kernel) ?_⟩
          exact ⟨_, rfl, _, rfl, b, _, 1, _, rfl, rfl, SqT.of (sG _ _ gb), atI_nat (j := 1) rfl, G, v, _, g, hs, rfl, sG, hv, r2, hangsOk_lt pok, l24, q⟩
    | ly t =>
      obtain ⟨b, xs, rfl, gb, rx⟩ := Rp.tup_inv (ds := [.str (Str.ofString "lay"), fod t]) hp
      cases rx with
      | cons r1 rx =>
        cases rx with
        | cons r2 rx =>
          cases rx
          cases r1.str_inv
          refine ⟨_, rfl, b, _, 0, _, rfl, rfl, SqT.of (sG _ _ gb), atI_nat (j := 0) rfl, rfl, _, rfl, iteD rfl ?_⟩
          exact ⟨_, rfl, b, _, 1, _, rfl, rfl, SqT.of (sG _ _ gb), atI_nat (j := 1) rfl, q _ _ _ (Xt.refl sG) r2⟩
end
end KJ
set_option maxHeartbeats 4000000
namespace KJ
open PySem PySem.Spec PyProof.Rows L2 TL
/-! ### rows -/
inductive Row where
  | shut
  | op (hs : List Hang)
  | ly (g : Forest)
def rowW (n : Nat) : Row → List (List Nat)
  | .shut => [numL n, wShut]
  | .op hs => numL n :: wOpen :: hs.map hwL
  | .ly g => numL n :: wLay :: g.map pwL
structure Sta where
  g : Forest
  p : Option Pend
def std (s : Sta) : PyData := .tuple [fod s.g, pnd s.p]
def rowOk (rs : List Nat) (s : Sta) : Row → Prop
  | .shut => s.p ≠ none
  | .op hs => s.p = none ∧ hs ≠ [] ∧ hs.length ≤ 24 ∧ hangsOk rs [] s.g hs
  | .ly t => Good rs t
def stepR (s : Sta) : Row → Sta
  | .shut => ⟨match s.p with | none => s.g | some pn => closedL s.g pn, none⟩
  | .op hs => ⟨s.g, some (.op hs)⟩
  | .ly t => ⟨s.g, some (.ly t)⟩
structure StaOk (rs : List Nat) (s : Sta) : Prop where
  good : Good rs s.g
  pend : pendOk rs s.g s.p
theorem StaOk.step {rs : List Nat} {s : Sta} {r : Row} (h : StaOk rs s) (ok : rowOk rs s r) : StaOk rs (stepR s r) := by
  cases r with
  | shut =>
    obtain ⟨g, p⟩ := s
    cases p with
    | none => exact absurd rfl ok
    | some pn =>
      refine ⟨?_, trivial⟩
      cases pn with
      | op hs => exact behindL_good hs g [] h.good h.pend
      | ly t => exact h.pend
  | op hs => exact ⟨h.good, ok.2.2.2⟩
  | ly t => exact ⟨h.good, ok⟩
theorem lit_shutw : Str.ofString "shut" = mkS wShut := by decide +kernel
theorem lit_openw : Str.ofString "open" = mkS wOpen := by decide +kernel
theorem lit_layw : Str.ofString "lay" = mkS wLay := by decide +kernel
theorem lit_basew : Str.ofString "base" = mkS wBase := by decide +kernel
theorem lit_0 : Str.ofString "0" = mkS [48] := by decide +kernel
abbrev wv (ws : List (List Nat)) : List V := ws.map fun l => V.str (mkS l)
theorem vne {a b : List Nat} (h : a ≠ b) {y : Str} (e : y = mkS b) : ¬ (V.str (mkS a) = V.str y) := fun z => h (mkS_inj ((V.str.inj z).trans e))
theorem veq {a : List Nat} {y : Str} (e : y = mkS a) : V.str (mkS a) = V.str y := by rw [e]
section
variable {P : Program} {w : World} {K : PySem.W.Frag} {mg : Str → Option Value} {base : Heap} {t1 t2 : Tok} {f : Addr} {fd : FuncData}
theorem pair_inv {H : Hp} {v : V} {d e : PyData} (h : Rp H v (.tuple [d, e])) : ∃ a x y, v = .ref a ∧ H a = some (.tup [x, y]) ∧ Rp H x d ∧ Rp H y e := by
  obtain ⟨a, xs, rfl, ha, r⟩ := Rp.tup_inv h
  cases r with
  | cons r1 r =>
    cases r with
    | cons r2 r =>
      cases r
      exact ⟨a, _, _, rfl, ha, r1, r2⟩
theorem pair_new {G H G' H' : Hp} {M : List Addr} {x y : V} {d e : PyData} {p : Addr} (X : Xt M G H G' H') (n : H' p = none) (r1 : Rp G' x d) (r2 : Rp G' y e) : Rp (upd G' p (.tup [x, y])) (.ref p) (.tuple [d, e]) := by
  have s := same_new (o := .tup [x, y]) (X.gh.free n)
  exact .tup upd_same (.cons (r1.mono s) (.cons (r2.mono s) .nil))
def sp_row_read : Sp := fun vs H Q _ => ∃ (G : Hp) (vr vn vt : V) (wa : Addr) (rs : List Nat) (st : Sta) (n : Nat) (row : Row), vs = [vr, vn, vt, .ref wa] ∧ Same G H ∧ Rp G vr (rd rs) ∧ RsOk rs ∧ NamesAt G vn rs ∧ Rp G vt (std st) ∧ StaOk rs st ∧ rowOk rs st row ∧
  H wa = some (.lst (wv (rowW n row))) ∧ ∀ G' H' u, Xt [] G H G' H' → Rp G' u (std (stepR st row)) → u ≠ .non → Q u H'
theorem ok_row_read (T : Txt mg t1 t2) (c_closed : Cal P w K mg base 3 "closed" sp_closed) (c_hangs_read : Cal P w K mg base 4 "hangs_read" sp_hangs_read) (c_forest_read : Cal P w K mg base 5 "forest_read" sp_forest_read) (F : FunT K "row_read" s_row_read f fd) : FnOk P w K mg base CX0 6 f fd ["rooms", "names", "told", "words"] sp_row_read := by
  refine F.ok sc_row_read (fun vs H Q E h => ?_) (fun cdv A outer s H vs Q E hr h => ?_)
  · obtain ⟨G, vr, vn, vt, wa, rs, st, n, row, rfl, _⟩ := h
    rfl
  · obtain ⟨G, vr, vn, vt, wa, rs, ⟨g, pn⟩, n, row, rfl, sG, hvr, ok, hn, ht, sok, rok, hwa, q⟩ := h
    obtain ⟨t, vg, vp, rfl, gT, rg, rp⟩ := pair_inv ht
    have lg24 : g.length ≤ 24 := by rw [sok.good.len]; exact ok.len
    have hN := hn
    obtain ⟨tn, d1, d2, rfl, gN, hth, hpl⟩ := hn
    refine ⟨_, (pss_cons (ps_asg (pv 2) (pg_tup rfl (pgs_cons (pg_name (i := 4) sc_row_read.nd rfl (Or.inl rfl)) (pgs_cons (pg_name (i := 5) sc_row_read.nd rfl (Or.inl rfl)) pgs_nil))))
      (pss_cons (ps_set (i := 6) sc_row_read.nd rfl (Or.inl rfl) (pe_ifExp (pt_cmpR op_gt (pe_callB call_len_seq (by rfl) T.len (by decide +kernel) (pa_cons (pv 3) pa_nil)) pe_int (nomark _)) (pe_ix (r := rIxL K) ix_list (pv 3) pe_int (fun _ _ => rfl)) pe_str))
      (pss_cons (ps_if (PW.pt (pw_and (pt_cmpR op_eq (pv 6) pe_str (nomark _)) (pw_and (pt_cmpR op_eq (pe_callB call_len_seq (by rfl) T.len (by decide +kernel) (pa_cons (pv 3) pa_nil)) pe_int (nomark _)) (pw_and1 (pt_cmpR op_notN (pv 5) pe_non (nomark _)))))) (pss_one (ps_ret (pe_tup (pa_cons (pe_c c_closed hr (by decide) rfl (pa_cons (pv 4) (pa_cons (pv 5) pa_nil))) (pa_cons pe_non pa_nil))))) pss_nil)
      (pss_cons (ps_if (PW.pt (pw_and (pt_cmpR op_eq (pv 6) pe_str (nomark _)) (pw_and1 (pt_cmpR op_isN (pv 5) pe_non (nomark _))))) (pss_cons (ps_set (i := 7) sc_row_read.nd rfl (Or.inl rfl) (pe_c c_hangs_read hr (by decide) rfl (pa_cons (pv 0) (pa_cons (pv 1) (pa_cons (pv 4) (pa_cons (pe_slice (r := rSlL K) sl_list (pv 3) (po_some pe_int) po_none) pa_nil))))))
      (pss_one (ps_ret (pe_ifExp (pt_cmpR op_isN (pv 7) pe_non (nomark _)) pe_non (pe_tup (pa_cons (pv 4) (pa_cons (pe_tup (pa_cons pe_str (pa_cons (pv 7) pa_nil))) pa_nil))))))) pss_nil)
      (pss_cons (ps_if (pt_cmpR op_eq (pv 6) pe_str (nomark _)) (pss_cons (ps_set (i := 8) sc_row_read.nd rfl (Or.inl rfl) (pe_c c_forest_read hr (by decide) rfl (pa_cons (pv 0) (pa_cons (pe_ix (r := rIxT K) ix_tup (pv 1) pe_int (fun _ _ => rfl)) (pa_cons (pe_slice (r := rSlL K) sl_list (pv 3) (po_some pe_int) po_none) pa_nil)))))
      (pss_one (ps_ret (pe_ifExp (pt_cmpR op_isN (pv 8) pe_non (nomark _)) pe_non (pe_tup (pa_cons (pv 4) (pa_cons (pe_tup (pa_cons pe_str (pa_cons (pv 8) pa_nil))) pa_nil))))))) pss_nil)
      (pss_one (ps_ret pe_non))))))), ?_⟩
    refine ⟨_, rfl, t, _, rfl, SqT.of (sG _ _ gT), rfl, _, _, rfl, _, _, rfl, rfl, ?_⟩
    cases row with
    | shut =>
      refine ⟨_, rfl, wa, _, rfl, .inl (SqL.of hwa), _, _, rfl, rfl, _, rfl, iteD (by show (1 : Int) < 2; decide) ⟨_, rfl, wa, _, 1, _, rfl, rfl, SqL.of hwa, atI_nat (j := 1) rfl, ?_⟩⟩
      cases pn with
      | none => exact absurd rfl rok
      | some pn =>
        refine ⟨_, rfl, rfl, _, rfl, iteD (veq lit_shutw) ?_⟩
        refine ⟨_, rfl, wa, _, rfl, .inl (SqL.of hwa), rfl, _, rfl, iteD rfl ?_⟩
        have vpn : vp ≠ .non := by
          rintro rfl
          cases pn <;> cases rp
        refine ⟨_, rfl, rfl, _, rfl, iteNT vpn ?_⟩
        refine ⟨_, rfl, _, rfl, G, vg, vp, rs, g, pn, rfl, sG, rg, rp, sok.pend, lg24, fun G1 H1 u X1 ru => ⟨(by show 2 ≤ sizeLine; decide), fun p np => ?_⟩⟩
        exact q _ _ _ (X1.new np) (pair_new X1 np ru .non) (by intro z; cases z)
    | op hs =>
      obtain ⟨epn, hne, l24, hok⟩ := rok
      have epn' : pn = none := epn
      subst epn'
      cases rp.non_inv
      have lw : (wv (rowW n (.op hs))).length = hs.length + 2 := by show _ + 1 + 1 = _; rw [List.length_map, List.length_map]
      refine ⟨_, rfl, wa, _, rfl, .inl (SqL.of hwa), _, _, rfl, rfl, _, rfl, iteD (by rw [lw]; omega) ⟨_, rfl, wa, _, 1, _, rfl, rfl, SqL.of hwa, atI_nat (j := 1) rfl, ?_⟩⟩
      refine ⟨_, rfl, rfl, _, rfl, iteDF (vne (by decide) lit_shutw) ?_⟩
      refine ⟨_, rfl, rfl, _, rfl, iteD (veq lit_openw) ?_⟩
      refine ⟨_, rfl, rfl, _, rfl, iteD rfl ?_⟩
      refine ⟨_, rfl, _, rfl, _, rfl, _, rfl, 2, rfl, wa, _, rfl, SqL.of hwa, fun p np => ?_⟩
      have e1 : cutV (wv (rowW n (.op hs))) (some 2) none = hs.map fun h => V.str (mkS (hwL h)) := by
        have z := cut_from (xs := wv (rowW n (.op hs))) (x := 2) (by rw [lw]; omega)
        refine z.trans ?_
        show (hs.map hwL).map (fun l => V.str (mkS l)) = _
        rw [List.map_map]
        rfl
      rw [e1]
      have X1 : Xt [] G H G (upd H p (.lst (hs.map fun h => V.str (mkS (hwL h))))) := (Xt.refl sG).newM np
      refine ⟨G, vr, _, vg, p, rs, g, hs, rfl, X1.gh, hvr, ok, hN, rg, sok.good, upd_same, hok, hne, l24, fun G2 H2 u X2 ru => ?_⟩
      obtain ⟨c, xs, rfl, gc, rx⟩ := Rp.tup_inv ru
      refine ⟨_, rfl, rfl, _, rfl, iteDF (by intro z; cases z) ?_⟩
      refine ⟨_, rfl, _, rfl, (by show 2 ≤ sizeLine; decide), fun p2 n2 => ⟨(by show 2 ≤ sizeLine; decide), fun p3 n3 => ?_⟩⟩
      have X3 := (X1.trans X2).new (o := .tup [.str (Str.ofString "open"), .ref c]) n2
      refine q _ _ _ (X3.new n3) (pair_new X3 n3 ?_ ?_) (by intro z; cases z)
      · exact rg.mono X3.gg
      · exact pair_new (X1.trans X2) n2 (.str _) ru
    | ly t2 =>
      have gt : Good rs t2 := rok
      have lw : (wv (rowW n (.ly t2))).length = t2.length + 2 := by show _ + 1 + 1 = _; rw [List.length_map, List.length_map]
      refine ⟨_, rfl, wa, _, rfl, .inl (SqL.of hwa), _, _, rfl, rfl, _, rfl, iteD (by rw [lw]; omega) ⟨_, rfl, wa, _, 1, _, rfl, rfl, SqL.of hwa, atI_nat (j := 1) rfl, ?_⟩⟩
      refine ⟨_, rfl, rfl, _, rfl, iteDF (vne (by decide) lit_shutw) ?_⟩
      refine ⟨_, rfl, rfl, _, rfl, iteDF (vne (by decide) lit_openw) ?_⟩
      refine ⟨_, rfl, rfl, _, rfl, iteD (veq lit_layw) ?_⟩
      refine ⟨_, rfl, _, rfl, tn, _, 1, _, rfl, rfl, SqT.of (sG _ _ gN), atI_nat (j := 1) rfl, _, rfl, 2, rfl, wa, _, rfl, SqL.of hwa, fun p np => ?_⟩
      have e1 : cutV (wv (rowW n (.ly t2))) (some 2) none = t2.map fun h => V.str (mkS (pwL h)) := by
        have z := cut_from (xs := wv (rowW n (.ly t2))) (x := 2) (by rw [lw]; omega)
        refine z.trans ?_
        show (t2.map pwL).map (fun l => V.str (mkS l)) = _
        rw [List.map_map]
        rfl
      rw [e1]
      have X1 : Xt [] G H G (upd H p (.lst (t2.map fun h => V.str (mkS (pwL h))))) := (Xt.refl sG).newM np
      refine ⟨G, vr, d2, p, rs, t2, rfl, X1.gh, hvr, ok, hpl, upd_same, gt, fun G2 H2 u X2 ru => ?_⟩
      obtain ⟨c, xs, rfl, gc, rx⟩ := Rp.tup_inv ru
      refine ⟨_, rfl, rfl, _, rfl, iteDF (by intro z; cases z) ?_⟩
      refine ⟨_, rfl, _, rfl, (by show 2 ≤ sizeLine; decide), fun p2 n2 => ⟨(by show 2 ≤ sizeLine; decide), fun p3 n3 => ?_⟩⟩
      have X3 := (X1.trans X2).new (o := .tup [.str (Str.ofString "lay"), .ref c]) n2
      refine q _ _ _ (X3.new n3) (pair_new X3 n3 ?_ ?_) (by intro z; cases z)
      · exact rg.mono X3.gg
      · exact pair_new (X1.trans X2) n2 (.str _) ru
/-! ### base_read -/
def baseW (g : Forest) : List (List Nat) := [48] :: wBase :: g.map pwL
def sp_base_read : Sp := fun vs H Q _ => ∃ (G : Hp) (vr vn : V) (wa : Addr) (rs : List Nat) (g : Forest), vs = [vr, vn, .ref wa] ∧ Same G H ∧ Rp G vr (rd rs) ∧ RsOk rs ∧ NamesAt G vn rs ∧ Good rs g ∧
  H wa = some (.lst (wv (baseW g))) ∧ ∀ G' H' u, Xt [] G H G' H' → Rp G' u (std ⟨g, none⟩) → u ≠ .non → Q u H'
theorem ok_base_read (T : Txt mg t1 t2) (c_forest_read : Cal P w K mg base 5 "forest_read" sp_forest_read) (F : FunT K "base_read" s_base_read f fd) : FnOk P w K mg base CX0 6 f fd ["rooms", "names", "words"] sp_base_read := by
  refine F.ok sc_base_read (fun vs H Q E h => ?_) (fun cdv A outer s H vs Q E hr h => ?_)
  · obtain ⟨G, vr, vn, wa, rs, g, rfl, _⟩ := h
    rfl
  · have hu64 := hu64_of hr
    obtain ⟨G, vr, vn, wa, rs, g, rfl, sG, hvr, ok, hn, gd, hwa, q⟩ := h
    obtain ⟨tn, d1, d2, rfl, gN, hth, hpl⟩ := hn
    have lw : (wv (baseW g)).length = g.length + 2 := by show _ + 1 + 1 = _; rw [List.length_map, List.length_map]
    refine ⟨_, (pss_cons (ps_set (i := 3) sc_base_read.nd rfl (Or.inl rfl) (pe_ifExp (pt_cmpR (r := rEqD K) (op_eqD hu64) (pe_slice (r := rSlL K) sl_list (pv 2) po_none (po_some pe_int)) (pe_lst (pa_cons pe_str (pa_cons pe_str pa_nil))) (nomark _)) (pe_c c_forest_read hr (by decide) rfl (pa_cons (pv 0) (pa_cons (pe_ix (r := rIxT K) ix_tup (pv 1) pe_int (fun _ _ => rfl)) (pa_cons (pe_slice (r := rSlL K) sl_list (pv 2) (po_some pe_int) po_none) pa_nil)))) pe_non))
      (pss_one (ps_ret (pe_ifExp (pt_cmpR op_isN (pv 3) pe_non (nomark _)) pe_non (pe_tup (pa_cons (pv 3) (pa_cons pe_non pa_nil))))))), ?_⟩
    refine ⟨_, rfl, 2, rfl, wa, _, rfl, SqL.of hwa, fun p np => ?_⟩
    have e0 : cutV (wv (baseW g)) none (some 2) = [V.str (mkS [48]), V.str (mkS wBase)] := by
      have z : cutV (wv (baseW g)) none (some ((2 : Nat) : Int)) = (wv (baseW g)).take 2 := by
        unfold cutV
        rw [HT.sIx_none, HT.sIx_nat, List.drop_zero, Nat.sub_zero, Nat.min_eq_left (by rw [lw]; omega)]
      exact z
    rw [e0]
    have X1 : Xt [] G H G (upd H p (.lst [V.str (mkS [48]), V.str (mkS wBase)])) := (Xt.refl sG).newM np
    have s1 : Same H (upd H p (.lst [V.str (mkS [48]), V.str (mkS wBase)])) := same_new np
    refine ⟨(by show 2 ≤ sizeLine; decide), fun p2 n2 => ?_⟩
    have npp : p ≠ p2 := ne_of_none upd_same n2
    have X2 := X1.newM (o := .lst [V.str (Str.ofString "0"), V.str (Str.ofString "base")]) n2
    have s2 := s1.trans (same_new (o := .lst [V.str (Str.ofString "0"), V.str (Str.ofString "base")]) n2)
    have lay : PyData.canLay0 (.list [.str (mkS [48]), .str (mkS wBase)]) = true := by decide +kernel
    have shp : SeqAt.shaped (.list [.str (mkS [48]), .str (mkS wBase)]) = true := by decide +kernel
    refine ⟨.list [.str (mkS [48]), .str (mkS wBase)], .list [.str (mkS [48]), .str (mkS wBase)], Rp.dp (.lst (by rw [upd_ne npp]; exact upd_same) (.cons (.str _) (.cons (.str _) .nil))), Rp.dp (.lst upd_same ?_), shp, shp, _, rfl, ?_⟩
    · rw [lit_0, lit_basew]
      exact .cons (.str _) (.cons (.str _) .nil)
    rw [SeqAt.eqv_refl _ lay]
    refine iteT ?_
    refine ⟨_, rfl, _, rfl, tn, _, 1, _, rfl, rfl, SqT.of (s2 _ _ (sG _ _ gN)), atI_nat (j := 1) rfl, _, rfl, 2, rfl, wa, _, rfl, SqL.of (s2 _ _ hwa), fun p3 n3 => ?_⟩
    have e1 : cutV (wv (baseW g)) (some 2) none = g.map fun h => V.str (mkS (pwL h)) := by
      have z := cut_from (xs := wv (baseW g)) (x := 2) (by rw [lw]; omega)
      refine z.trans ?_
      show (g.map pwL).map (fun l => V.str (mkS l)) = _
      rw [List.map_map]
      rfl
    rw [e1]
    have X3 := X2.newM (o := .lst (g.map fun h => V.str (mkS (pwL h)))) n3
    refine ⟨G, vr, d2, p3, rs, g, rfl, X3.gh, hvr, ok, hpl, upd_same, gd, fun G2 H2 u X4 ru => ?_⟩
    obtain ⟨c, xs, rfl, gc, rx⟩ := Rp.tup_inv ru
    refine ⟨_, rfl, rfl, _, rfl, iteDF (by intro z; cases z) ?_⟩
    refine ⟨_, rfl, (by show 2 ≤ sizeLine; decide), fun p5 n5 => ?_⟩
    have X5 := X3.trans X4
    exact q _ _ _ (X5.new n5) (pair_new X5 n5 ru .non) (by intro z; cases z)
end
end KJ
set_option maxHeartbeats 4000000
/-! Refused.__init__ (super().__init__(what); self.what = what), and an error of a class under it made and raised. The way of skel/42 (LowTxt, low_init, low_made, pmk_low), turned to an __init__ with super(). -/
namespace PySem
namespace KJX
open PySem.W PySem.Calls PyProof.Rows PySem.HandSPX
/-- Refused's own __init__, out of the row -/
def refI : Stmt := match KJ.topS 1 with
  | .ClassDef _ _ _ (d :: _) _ _ _ _ _ _ _ => d
  | s => s
def iA : Arguments := L2.defArgs refI
def iB : List Stmt := L2.defBody refI
def iS : Scope := L2.defScope refI
/-- what the written part says of a class at C under Refused (at D), whose __init__ stands at fI, its class cell at cc, its code at cda -/
structure RfTxt (P : Program) (K : Frag) (C D fI cc cda : Addr) : Prop where
  cls : ∃ nm q N bs bm sn sub ab col dd k0 k1 k2 k3 k5, K.lookup C = some (excClassObj nm q C N bs bm true sn sub ab col dd k0 k1 k2 k3 k5 "ValueError.__new__") ∧ refsVE bm = true
  sa : findIn K (.ref C) "__setattr__" = some (some (.builtin "object.__setattr__"))
  ga : findIn K (.ref C) "__getattribute__" = some (some (.builtin "BaseException.__getattribute__"))
  gg : findIn K (.ref C) "__getattr__" = some none
  noN : findIn K (.ref C) "what" = some none
  iC : findIn K (.ref C) "__init__" = some (some (.ref fI))
  tC : typeIn K (.ref fI) = some (.type "function")
  exC : subIn K (.ref C) (.type "BaseException") = some true
  tyC : typeIn K (.ref C) = some (.type "type")
  hdC : hasDictIn K C = true
  fn : ∃ (oc : Value) (od : Option Addr) (kV doc pm : Value) (an : Option Addr) (ct : Value) (osl : Array (Option Value)), K.lookup fI = some ⟨oc, od, .func (ksFn "__init__" "Refused.__init__" iA iB iS .none kV doc pm an (.ref cda) ct cc), osl⟩
  code : codeIn K (.ref cda) "Refused.__init__" = true
  file : ∃ ccl cdd vs ccs file tf, K.lookup cda = some ⟨ccl, cdd, .fields vs, ccs⟩ ∧ vs[2]? = some (.str file tf) ∧ ((P.main.file : Str) == file) = true
  cell : ∃ cl cld csl, K.lookup cc = some ⟨cl, cld, .cell (some (.ref D)), csl⟩
  clsD : ∃ cd, clsIn K D = some cd
  subD : mroIn K C (.ref D) = some true
  opq : nsIn K cStatics "thirdparty.any" = some none
  sup : ks_superIn K C D "__init__" = some (some (.builtin "ValueError.__init__"))
  sB : subIn K (.ref C) (.type "ValueError") = some true
  top : (P.main.scope.names.lookup ("super" : Str)).isSome = false
theorem one_size (v : Value) : [v].length ≤ sizeLine := by
  rw [sizeLine_eq]
  exact (by decide : 1 ≤ 16777216)
/-- what __init__ leaves of a fresh exception at x -/
structure InitEnd (h h' : Heap) (x C dx t1 : Addr) (v : Value) : Prop where
  keep : ∀ b o, b ≠ x → h.get? b = some o → h'.get? b = some o
  obj : h'.get? x = some { cls := .ref C, dict := some dx, data := .fields #[.ref t1, .none, .none, .none, .bool false, .none] }
  dbig : h.objs.size ≤ dx
  dne : dx ≠ x
  ns : h'.Ns1 dx (fun y => if y = "what" then some v else none)
/-- a made one -/
structure OwnMade (h h' : Heap) (e C d : Addr) (v : Value) : Prop where
  keep : ∀ b o, h.get? b = some o → h'.get? b = some o
  new : h.objs.size ≤ e
  obj : ∃ oe vs, h'.get? e = some oe ∧ oe.cls = .ref C ∧ oe.dict = some d ∧ oe.data = .fields vs ∧ vs[1]? = some .none
  dbig : h.objs.size ≤ d
  dne : d ≠ e
  ns : h'.Ns1 d (fun y => if y = "what" then some v else none)
section
variable {prog : Program} {w : World} {A : Around} {E : Value → Shared → Prop} {R : Result → Shared → Prop} {s : Shared} {K : Frag} {C D fI cc cda : Addr}
/-- the bound ValueError.__init__, called -/
theorem call_mw {h : Heap} {g : Array GenState} {d : Drawn} {t : Nat} {os : OsState} {nm q : Str} {N : Addr} {bs bm : List Value} {hdct : Bool} {sn : List Str} {sub : List Value} {ab : Bool} {col : Option Bool} {dd : Option Addr} {k0 k1 k2 k3 k5 : Option Value} {u e t0 : Addr} {rest : List Value} {Q : Value → Shared → Prop}
    (hC : h.get? C = some (excClassObj nm q C N bs bm hdct sn sub ab col dd k0 k1 k2 k3 k5 "ValueError.__new__")) (he : h.get? e = some (excO C t0)) (hu : h.get? u = some (kxs_mw "ValueError.__init__" e)) (hrest : rest.length ≤ sizeLine)
    (hq : ∀ h' t1, (∀ b o, b ≠ e → h.get? b = some o → h'.get? b = some o) → h'.get? e = some (excO C t1) → Q .none ⟨h', g, d, t, os⟩) :
    wpAny (model prog w) A (call (.ref u) rest) Q E ⟨h, g, d, t, os⟩ := by
  refine wpAny_call (codeAny_of_tree ?_)
  show wpAny _ A.in1 (callAny (.ref u) ⟨rest, []⟩) _ _ _
  simp only [callAny]
  refine wpAny_bind (wpAny_load hu ?_)
  simp only [kxs_mw, show (Value.type "method-wrapper" == Value.type "method" || Value.type "method-wrapper" == Value.type "builtin_function_or_method" || Value.type "method-wrapper" == Value.type "method-wrapper") = true by decide, if_true]
  refine W.KFB.if_so (by decide) ?_
  refine wpAny_bind (check_bound_init F.excBase_ValueError.toExcCallFacts hC he rfl ?_)
  refine wpAny_bind (wpAny_pure (wpAny_pure ?_))
  refine ⟨plainId_quiet F.excBase_ValueError.init.plain _, codeAny_builtin F.excBase_ValueError.initEntry ?_⟩
  exact exc_init_tree (cls := .ref C) (t0 := t0) (dv := none) (c2 := .none) (c3 := .none) (b4 := .bool false) he hrest fun h' k e' _ => hq h' _ k e'
theorem ldN {M : Model} {env : Env} {m : Str → Option Value} {x : Str} {pos : Pos} {v : Value} {Q : Value → Shared → Prop} (hn : s.heap.Ns env.locals m) (hv : m x = some v) (h : Q v s)
    (hk : env.scope.kind = .function := by rfl) (hl : env.kindOf x = some .local := by rfl) (hd : (x == ("__debug__" : Str)) = false := by decide) : wpAny M A (eval (.Name x pos) env) Q E s := wpAny_Name (wpAny_loadName_local hk hl hn hv h) hd
theorem cw1 {M : Model} {i : String} {u x : Addr} {pos : Pos} {env : Env} {e : Expr} {rest : List Expr} {Q : Value → Shared → Prop}
    (h : wpAny M A (spliced (backTo pos (starEach (e :: rest) env))) (fun vs s₁ => KxsAt i u x s₁.heap ∧ wpAny M A (call (.ref u) vs) Q E s₁) E s)
    (he : starEach (e :: rest) env = (false, eval e env) :: starEach rest env := by rfl) (hplain : (backTo pos (starEach rest env)).any (·.1) = false := by rfl) :
    wpAny M A (callWith pos (.ref u) [] (backTo pos (starEach (e :: rest) env)) []) Q E s := by
  rw [he] at h ⊢
  refine kxs_callWith (i := i) (x := x) (by show (false || (backTo pos (starEach rest env)).any (·.1)) = false; rw [hplain]; rfl) ?_
  exact evalArgs_plain h
theorem rf_init (T : RfTxt prog K C D fI cc cda) {mg mb : Str → Option Value} {x t0 : Addr} {v : Value} (X : K.In s.heap) (hG : s.heap.Ns mainGlobals mg) (hS : mg "super" = none) (hB : s.heap.Ns builtinsNs mb) (hb : mb "super" = some (.type "super")) (hlim : s.heap.NoLimit)
    (hx : s.heap.get? x = some (excO C t0)) (hnx : K.lookup x = none) (hroom : A.depth < recursionLimit)
    (hq : ∀ h' tk dx t1, InitEnd s.heap h' x C dx t1 v → R (.ok (.ret .none)) { s with heap := h', toks := tk }) :
    codeAny (model prog w) A (.call (.ref fI) ⟨[.ref x, v], []⟩) R s := by
  obtain ⟨oc, od, kV, doc, pm, an, ct, osl, ho⟩ := T.fn
  obtain ⟨nm, q, N, bs, bm, sn, sub, ab, col, dd, k0, k1, k2, k3, k5, hC, hbm⟩ := T.cls
  obtain ⟨ccl, cdd, vs, ccs, file, tf, hcode, hvs, hfile⟩ := T.file
  obtain ⟨cl, cld, csl, hcell⟩ := T.cell
  obtain ⟨cdD, hD⟩ := T.clsD
  have hcl : clsIn K C = some { name := nm, bases := bs, mro := .ref C :: bm, ns := N, qualname := q, hasDict := true, slotNames := sn, subclasses := sub, abstract := ab, collection := col, hasDel := false } := by unfold clsIn; rw [hC] <;> rfl
  have hsup := T.sup
  unfold ks_superIn at hsup
  rw [hcl, Option.bind_some] at hsup
  have l1 : iS.names.lookup ("self" : Str) = some .local := by decide +kernel
  have l2 : iS.names.lookup ("what" : Str) = some .local := by decide +kernel
  have l3 : iS.names.lookup ("__class__" : Str) = some .free := by decide +kernel
  have l4 : iS.names.lookup ("super" : Str) = some .globalImplicit := by decide +kernel
  refine ks_codeAny_call_defAt (fd := ksFn "__init__" "Refused.__init__" iA iB iS .none kV doc pm an (.ref cda) ct cc) (body := iB) (binds := [("self", .ref x), ("what", v)]) hroom (X _ _ ho) rfl hlim (codeRec_of X T.code) rfl
    (BindsTo.of_eq (by first | rfl | with_unfolding_all rfl)) (show ∀ y ∈ iS.names, y.2 ≠ .cell by decide +kernel) (fun y hy => ?_) (fun h₁ hn k => ?_)
  · rcases List.mem_cons.mp hy with e | hy
    · rw [e]; exact l1
    · rw [List.mem_singleton.mp hy]; exact l2
  have X₁ : K.In h₁ := X.keeps k
  have hx₁ := k _ _ hx
  have hxL : s.heap.objs.size ≠ x := Nat.ne_of_gt (Heap.lt_size hx)
  have I₁ : InstAt h₁ x (excO C t0) C none := ⟨hx₁, rfl, rfl, trivial⟩
  obtain ⟨oD, hD1, hD2⟩ : ∃ oD, h₁.get? D = some oD ∧ oD.data = .cls cdD := by
    unfold clsIn at hD
    split at hD
    · rename_i c d cd' sl hl
      cases hD
      exact ⟨_, X₁ _ _ hl, rfl⟩
    · cases hD
  generalize hcA : A.deeper (callEnv (ksFn "__init__" "Refused.__init__" iA iB iS .none kV doc pm an (.ref cda) ct cc) s.heap.objs.size fI) = A'
  show PySem.wpAt (model prog w) A' (.func iB (ksEnv "Refused.__init__" iS s.heap.objs.size fI (.ref cda) cc)) (execs iB (ksEnv "Refused.__init__" iS s.heap.objs.size fI (.ref cda) cc)) _ _ _
  unfold iB
  refine ks_wpAt_execs_cons (ks_wpAt_Expr_any (ks_wpAt_MethodCall (pl := _) ?_))
  refine ks_wpAt_super_base (env := ksEnv "Refused.__init__" iS s.heap.objs.size fI (.ref cda) cc) l4 l3 (by decide +kernel) rfl (X₁ _ _ ho) rfl rfl rfl (X₁ _ _ hcode) rfl hvs hfile T.top ?_
  refine ks_loadName_global rfl l4 (loadGlobal_builtin (env := ksEnv "Refused.__init__" iS s.heap.objs.size fI (.ref cda) cc) (hG.keeps k) hS (hB.keeps k) hb ⟨rfl, ?_⟩)
  refine wpAny_loadName_free rfl l3 rfl ⟨_, X₁ _ _ hcell, rfl⟩ ?_
  refine wpAny_loadName_local (v := .ref x) rfl l1 hn (by first | rfl | with_unfolding_all rfl | kernel_rfl) ?_
  refine ks_wpAny_isType_cls hD1 hD2 ⟨rfl, ?_⟩
  refine ks_wpAny_call_super hD1 hD2 hx₁ rfl (fun c e => by cases e) (looks_mroIn X₁ T.subD) (fun h₂ hso k₂ => ?_)
  have X₂ : K.In h₂ := X₁.keeps k₂
  have hx₂ := k₂ _ _ hx₁
  have I₂ : InstAt h₂ x (excO C t0) C none := ⟨hx₂, rfl, rfl, trivial⟩
  refine kxs_getMethod kxs_ValueError hso (looks_opaque X₂ T.opq) (l₀ := .ref C :: bm) ?_ rfl X₂ hsup (I₂.type.andThen (looks_subIn X₂ T.sB)) (ks_ne X₂ I₂ hcl) (by decide +kernel) ?_
  · exact fun A Q E s k q => wpAny_bind ((looks_clsIn X₂ hcl) A _ E s k (wpAny_pure q))
  have k₃ : ∀ b o, h₂.get? b = some o → (h₂.push (kxs_mw "ValueError.__init__" x)).get? b = some o := fun b o e => Heap.get?_push_of_some _ e
  have hn₃ := (hn.keeps k₂).keeps k₃
  have hmw : (h₂.push (kxs_mw "ValueError.__init__" x)).get? h₂.objs.size = some (kxs_mw "ValueError.__init__" x) := Heap.get?_push_at rfl rfl
  refine cw1 (i := "ValueError.__init__") (x := x) ?_
  refine Calls.spliced_cons (ldN (v := v) hn₃ (by first | rfl | with_unfolding_all rfl | kernel_rfl) ?_)
  refine wpAny_pure ⟨hmw, ?_⟩
  refine call_mw (k₃ _ _ (k₂ _ _ (k _ _ (X _ _ hC)))) (k₃ _ _ hx₂) hmw (one_size v) fun h₄ t1 k₄ hx₄ => ?_
  have X₄ : K.In h₄ := fun a o e => k₄ a o (fun z => by rw [z, hnx] at e; cases e) (k₃ _ _ (X₂ a o e))
  have hn₄ : h₄.Ns s.heap.objs.size _ := hn₃.at fun o q => k₄ _ _ hxL q
  refine wpAt_of_wpAny (wpAny_execs_cons (plainObj_wpAny_Assign_Attribute ?_))
  refine ldN (v := v) hn₄ (by first | rfl | with_unfolding_all rfl | kernel_rfl) (ldN (v := .ref x) hn₄ (by first | rfl | with_unfolding_all rfl | kernel_rfl) ?_)
  refine set_plain X₄ (ox := excO C t1) (od := none) ⟨hx₄, rfl, rfl, trivial⟩ T.sa ?_
  refine exc_osa X₄ hx₄ hcl (show refsVE (.ref C :: bm) = true from hbm) rfl T.noN (fun h₅ tk₅ dx k₅ dn dne hx₅ hn₅ => ?_)
  show wpAny _ _ (execs _ _) _ _ _
  have z : s.heap.objs.size < h₄.objs.size := hn₄.lt
  exact wpAny_execs_nil (hq h₅ tk₅ dx t1 ⟨fun b o hb e => k₅ b o hb (k₄ b o hb (k₃ _ _ (k₂ _ _ (k b o e)))), hx₅, Nat.le_of_lt (Nat.lt_of_lt_of_le z dn), dne, hn₅⟩)
theorem rf_made (T : RfTxt prog K C D fI cc cda) {mg mb : Str → Option Value} {v : Value} (X : K.In s.heap) (hG : s.heap.Ns mainGlobals mg) (hS : mg "super" = none) (hB : s.heap.Ns builtinsNs mb) (hb : mb "super" = some (.type "super")) (hlim : s.heap.NoLimit) (hroom : A.depth + 1 < recursionLimit)
    (hq : ∀ h' tk e d, OwnMade s.heap h' e C d v → R (.ok (.ret (.ref e))) { s with heap := h', toks := tk }) :
    codeAny (model prog w) A (.call (.ref C) ⟨[v], []⟩) R s := by
  obtain ⟨nm, q, N, bs, bm, sn, sub, ab, col, dd, k0, k1, k2, k3, k5, hC, hbm⟩ := T.cls
  obtain ⟨hp, g, dr, tk, os⟩ := s
  have k : ∀ b o, hp.get? b = some o → ((hp.push (kdv_tup [v])).push (excO C hp.objs.size)).get? b = some o := fun b o e => Heap.get?_push_of_some _ (Heap.get?_push_of_some _ e)
  have hget : ((hp.push (kdv_tup [v])).push (excO C hp.objs.size)).get? (hp.objs.size + 1) = some (excO C hp.objs.size) := by heap_get
  have hnx : K.lookup (hp.objs.size + 1) = none := by
    cases e : K.lookup (hp.objs.size + 1) with
    | none => rfl
    | some o =>
      have z : hp.get? (hp.objs.size + 1) = some o := X _ _ e
      exact absurd (Nat.lt_of_succ_lt (Heap.lt_size z)) (Nat.lt_irrefl _)
  refine call_own F.excBase_ValueError (fun X => refsVE_contains X bm hbm) (X _ _ hC) (looks_findIn X T.iC) (fun self => bind_fn X self T.tC) (one_size v) ?_
  refine rf_init (s := ⟨(hp.push (kdv_tup [v])).push (excO C hp.objs.size), g, dr, tk, os⟩) T (X.keeps k) (hG.keeps k) hS (hB.keeps k) hb (hlim.keeps k) hget hnx ?_ fun h' tk' dx t1 ⟨k', hx, dn, dne, hns⟩ => ?_
  · show A.depth + 1 < recursionLimit
    exact hroom
  · have old : ∀ b o, hp.get? b = some o → h'.get? b = some o := fun b o e => k' b o (Nat.ne_of_lt (Nat.lt_succ_of_lt (Heap.lt_size e))) (k b o e)
    have z : hp.objs.size + 1 + 1 ≤ dx := by
      first
        | (simpa only [Heap.size_push] using dn)
        | exact dn
        | (have q := dn; rw [Heap.size_push, Heap.size_push] at q; exact q)
    exact ⟨rfl, hq h' tk' (hp.objs.size + 1) dx ⟨old, Nat.le_succ _, ⟨_, _, hx, rfl, rfl, rfl, rfl⟩, Nat.le_trans (Nat.le_trans (Nat.le_succ _) (Nat.le_succ _)) z, dne, hns⟩⟩
end
end KJX
end PySem
set_option maxHeartbeats 4000000
/-! raise BadJournal(e); try .. except A as n: .. (the first clause names what comes; further clauses behind it are never looked at); isinstance of what was caught. -/
namespace KJ
open PySem PySem.Spec PyProof.Rows L2
theorem relO_what {v : V} {v' : Value} (r : RelV v v') (f : Str) : RelO (List.lookup f [(("what" : Str), v)]) (if f = "what" then some v' else none) := by
  by_cases hw : f = "what"
  · subst hw
    rw [if_pos rfl]
    have q : List.lookup ("what" : Str) [(("what" : Str), v)] = some v := by simp [List.lookup]
    rw [q]
    exact r
  · rw [if_neg hw]
    have qw : (f == ("what" : Str)) = false := by simpa using hw
    have q2 : List.lookup f [(("what" : Str), v)] = none := by simp [List.lookup, qw]
    rw [q2]
    trivial
section
variable {X : Cx} {C D fI cc cda : Addr}
/-- C(e): d the error's own dict -/
def tMkErr (C : Addr) (ta : TA) : L2.St → Hp → XK → Prop := fun σ H Q => ta σ H fun vs H1 => ∃ v, vs = [v] ∧ ∀ d, H1 d = none → Q (.ref C) (some d) (upd H1 d (.xd [(("what" : Str), v)]))
theorem pmk_err {x : Str} {a : Expr} {ta : TA} {p pos : Pos} {k : Nat} (T : PySem.KJX.RfTxt X.prog X.K C D fI cc cda) (gC : X.mg x = some (.ref C)) (kC : PySem.W.keepIn X.K (.ref C) = true) (hS : X.mg "super" = none) (hr : Room k X.A) (ha : PA X [a] ta) (hg : Gl X x)
    (hdb : (x == ("__debug__" : Str)) = false := by decide) (he : starEach (a :: []) X.env = (false, eval a X.env) :: starEach [] X.env := by rfl) (hpl : (backTo pos (starEach [] X.env)).any (·.1) = false := by rfl) :
    PMk X (.Call (.Name x p) [a] [] pos) (tMkErr C ta) := by
  intro pins s σ H Q I h
  refine wpAny_Call_Name_kw (ld_glob I hg gC ?_ hdb)
  refine PySem.W.callWith_K (h₀ := X.base) I.ok.mod.kin kC (thn (ha.run pos pins s σ H _ I h) fun us s1 hh => ?_) he hpl
  obtain ⟨vs, H1, I1, r1, v, ev, q1⟩ := hh
  subst ev
  refine ⟨I1.kIn, ?_⟩
  cases r1 with
  | cons rv rn =>
    rename_i v' us'
    cases rn
    have hG := I1.mod.glob.keeps I1.bk
    obtain ⟨mb, h1, h2⟩ := I1.mod.blt
    have hB := h1.keeps I1.bk
    have hb : mb "super" = some (.type "super") := (h2 _ (by decide)).trans (by decide +kernel)
    have hlim := I1.nolimit
    obtain ⟨hp, g, dr, tk, os⟩ := s1
    refine wpAny_call (PySem.KJX.rf_made T I1.kIn hG hS hB hb hlim (by have := hr.dp; omega) fun h' tk' e d M => ?_)
    show MkP X pins σ Q (.ref e) ⟨h', g, dr, tk', os⟩
    obtain ⟨oe, fv, hoe, hc, hd, hdat, hf1⟩ := M.obj
    have hns := M.ns
    obtain ⟨G', g1, g2⟩ := restrict h' fun b => decide (b ≠ e)
    have gk : ∀ b, b ≠ e → G'.get? b = h'.get? b := fun b hb => g1 b (decide_eq_true hb)
    have ge : G'.get? e = none := g2 e (by simp)
    have old : ∀ b o, hp.get? b = some o → G'.get? b = some o := fun b o q => (gk b (Nat.ne_of_lt (Nat.lt_of_lt_of_le (Heap.lt_size q) M.new))).trans (M.keep b o q)
    have ob : ObjOk X.prog X.w (upd H1 d (.xd [(("what" : Str), v)])) G' d (.xd [(("what" : Str), v)]) :=
      ⟨_, hns.at (fun o q => (gk d M.dne).trans q), fun f => relO_what rv f⟩
    have J : Inv X pins σ (upd H1 d (.xd [(("what" : Str), v)])) ⟨G', g, dr, tk', os⟩ := I1.laid (t' := tk') old M.dbig ob
    refine ⟨e, oe, fv, ⟨G', g, dr, tk', os⟩, _, .ref C, some d, rfl, J, fun b o q => ?_, ge, hoe, ⟨hc, hd⟩, hdat, hf1, ?_, rfl, I1.bare, raises_own T.exC T.tyC, q1 d (I1.hok.fresh M.dbig)⟩
    · by_cases hbe : b = e
      · have q' : G'.get? b = some o := q
        rw [hbe, ge] at q'; cases q'
      · exact (gk b hbe).symm.trans q
    · rw [upd_ne (Ne.symm M.dne)]
      exact I1.hok.fresh M.new
end
/-! ### the first of some except clauses, with a name -/
def wFirst (K : PySem.W.Frag) (c : Value) (i : Nat) (ts : Addr → Value → Option Addr → TS) (D : Ends) : WX := fun cls d σ H => PySem.W.exmOne K cls c = some true ∧
  ∀ a, H a = none → ts a cls d { nx := fun σ' H' => D.nx (σ'.set i none) H', rt := D.rt, bk := fun σ' H' => D.bk (σ'.set i none) H', ct := fun σ' H' => D.ct (σ'.set i none) H' } (σ.set i (some (.ref a))) H
section
variable {X : Cx} {x n : Str} {c : Value} {i : Nat} {body suite : List Stmt} {b₀ : Stmt} {hds : List ExceptHandler} {np pos pos' : Pos} {tb : WX → TS} {ts : Addr → Value → Option Addr → TS}
theorem ps_try_first (hs : X.stack = X.env :: X.outer) (hf : X.env.frame = some X.env.locals) (hN : X.N.Nodup) (hi : X.N[i]? = some n) (hln : X.env.kindOf n = some .local) (hc : Names X x c)
    (hb : ∀ (W : WX) (pn : List (Addr × Obj)) (xe : Value → Shared → Prop), Takes (X.tr pn xe) W → PassesOwn (model X.prog X.w) X.A X.env xe → PSs (X.tr pn xe) body (tb W))
    (hsu : ∀ (a : Addr) (oe : Obj) (cls : Value) (d : Option Addr) (pn : List (Addr × Obj)), Zc cls d oe → (∃ vs, oe.data = .fields vs) → PSs (X.suite a ((a, oe) :: pn)) (b₀ :: suite) (ts a cls d)) :
    PS X (.Try body (.ExceptHandler (some (.Name x np)) (some n) (b₀ :: suite) pos' :: hds) [] [] pos) (fun D σ H => tb (wFirst X.K c i ts D) D σ H) := by
  refine ⟨fun pins s σ H D I h => ?_⟩
  have ok := I.ok
  have hfr : X.A.frames = some (X.env :: X.outer) := by rw [ok.frames, hs]
  refine wpAny_Try_except ?_
  refine wpAny_mono ((hb (wFirst X.K c i ts D) (X.pn ++ pins) (fun e s₁ => wpAny (model X.prog X.w) X.A (noteFrame e X.env) (fun _ s₂ => wpAny (model X.prog X.w) X.A (setFlight e none) (fun _ s₃ =>
    wpAny (model X.prog X.w) X.A (handleBy e X.env (.ExceptHandler (some (.Name x np)) (some n) (b₀ :: suite) pos' :: hds)) (SP X pins D) X.xe s₃) X.xe s₂) X.xe s₁) (fun u s' xx => ?_) PassesOwn.looking).run [] s σ H D (I.toTry _) h) (fun f s1 hsp => ?_) (fun e s1 he => he)
  · obtain ⟨a, B, sI, pins', σ', H', cls, d, rfl, J', nb, up, sky, na, os, ag, hmatch, hyes⟩ := xx
    have J : Inv X pins σ' H' sI := J'.ofTry ok
    rw [hs] at sky
    show wpAny (model X.prog X.w) X.A (noteFrame (.ref a) X.env) _ _ _
    refine Sky.land Zc.steady hfr hf sky fun h3 fl3 up3 => ?_
    have J3 : Inv X pins σ' H' { s' with heap := h3 } := J.landed nb fl3.1 (up.trans up3) os ag
    obtain ⟨oe3, vs3, he3, hz3, hd3⟩ := fl3.there
    have nfr : a ∉ frs (X.env :: X.outer) := fun hm => by
      obtain ⟨_, o', e', hnf⟩ := fl3.2.2.1.mem hm
      rw [he3] at e'; cases e'
      exact hnf _ hd3
    have nL : a ≠ X.env.locals := fun z => nfr (List.mem_filterMap.mpr ⟨X.env, List.mem_cons_self, by rw [hf, z]⟩)
    have nF : a ∉ X.fs := fun hm => by
      obtain ⟨e, he, q⟩ := List.mem_filterMap.mp hm
      exact nfr (List.mem_filterMap.mpr ⟨e, List.mem_cons_of_mem _ he, q⟩)
    have S3 := J3.suite he3 hd3 na nL nF
    refine wpAny_handleBy_cons (codeAny_handlers_test ?_) (by intro q; cases q)
    have LT : PySem.W.Looks (model X.prog X.w) h3 (typeOf (.ref a)) cls := fun A Q E s k q => wpAny_typeOf_ref (k _ _ he3) (by rw [hz3.1]; exact q)
    have LM := PySem.W.exm_one (M := model X.prog X.w) (J3.kIn) LT hmatch
    have test : ∀ {Q : Value → Shared → Prop} {E : Value → Shared → Prop}, Q c { s' with heap := h3 } → wpAny (model X.prog X.w) (X.A.mark (some (.ref a))) (eval (.Name x np) X.env) Q E { s' with heap := h3 } := fun {Q E} q => by
      obtain ⟨hg, hdbg, hm | ⟨hm, hv, hnn⟩⟩ := hc
      · exact ld_glob (X := X.suite a ((a, oe3) :: (X.pn ++ pins))) S3 hg hm q hdbg
      · exact ld_blt (X := X.suite a ((a, oe3) :: (X.pn ++ pins))) S3 hg hm hv q hnn hdbg
    refine test (LM.here ?_)
    refine codeAny_handlers_suite_as ?_
    refine HandSPX.lands_againZ fl3 fun h4 fl4 up4 => ?_
    have J4 : Inv X pins σ' H' { s' with heap := h4 } := J.landed nb fl4.1 ((up.trans up3).trans up4) os ag
    obtain ⟨oe4, vs4, he4, hz4, hd4⟩ := fl4.there
    have S4 := J4.suite he4 hd4 na nL nF
    refine store_ok (X := X.suite a ((a, oe4) :: (X.pn ++ pins))) (v := .ref a) S4 hN hi (.inl hln) rfl (fun s5 S5 => ?_) (.inr hln)
    refine wpAny_mono ((hsu a oe4 cls d (X.pn ++ pins) hz4 ⟨_, hd4⟩).run [] s5 _ H' _ S5 (hyes a na)) (fun f s6 hsp => ?_) (fun _ _ z => False.elim z)
    have away : ∀ {σ6 : L2.St} {H6 : Hp} {Q : Shared → Prop}, Inv (X.suite a ((a, oe4) :: (X.pn ++ pins))) [] σ6 H6 s6 → (∀ s7, Inv X pins (σ6.set i none) H6 s7 → Q s7) →
        wpAny (model X.prog X.w) X.A (do bindName X.env n .none; unbindBehindTheSuite X.env n pos') (fun _ s7 => Q s7) X.xe s6 := fun S6 hq => gone_ok (S6.unsuite ok) hN hi hln hq
    cases f with
    | next => obtain ⟨σ6, H6, S6, q6⟩ := hsp; exact away S6 fun s7 J7 => ⟨_, _, J7, q6⟩
    | brk => obtain ⟨σ6, H6, S6, q6⟩ := hsp; exact away S6 fun s7 J7 => ⟨_, _, J7, q6⟩
    | cont => obtain ⟨σ6, H6, S6, q6⟩ := hsp; exact away S6 fun s7 J7 => ⟨_, _, J7, q6⟩
    | ret u => obtain ⟨v6, σ6, H6, S6, r6, q6⟩ := hsp; exact away S6 fun s7 J7 => ⟨_, _, _, J7, r6, q6⟩
  · cases f with
    | next => obtain ⟨σ', H', J', q⟩ := hsp; exact wpAny_execs_nil ⟨σ', H', J'.ofTry ok, q⟩
    | brk => obtain ⟨σ', H', J', q⟩ := hsp; exact ⟨σ', H', J'.ofTry ok, q⟩
    | cont => obtain ⟨σ', H', J', q⟩ := hsp; exact ⟨σ', H', J'.ofTry ok, q⟩
    | ret u => obtain ⟨v, σ', H', J', r, q⟩ := hsp; exact ⟨v, σ', H', J'.ofTry ok, r, q⟩
end
/-! ### isinstance of the caught error, whose own dict is at d -/
def rIsX (K : PySem.W.Frag) (D a : Addr) (cls : Value) (d : Option Addr) : List V → Hp → VK → Prop := fun xs H Q => cls = .ref D ∧ ∃ (c : V) (cv : Value) (b : Bool) (dd : Addr) (fs : List (Str × V)), xs = [.ref a, c] ∧ (∀ u, RelV c u → u = cv) ∧ d = some dd ∧ H dd = some (.xd fs) ∧ PySem.W.kitOne K (.ref D) cv = some b ∧ Q (.bl b) H
theorem call_isX {X : Cx} {a D : Addr} {cls : Value} {d : Option Addr} {oe : Obj} {pn : List (Addr × Obj)} (C : ExcC X.K D) (hz : Zc cls d oe) (hf : ∃ vs, oe.data = .fields vs) : CallR (X.suite a ((a, oe) :: pn)) (.builtin "isinstance") (rIsX X.K D a cls d) := by
  intro pins s σ H xs us Q I r h
  obtain ⟨rfl, c, cv, b, dd, fs, rfl, hcv, rfl, ea, e, q⟩ := h
  cases r with
  | cons rx rr =>
    cases rr with
    | cons rt rr =>
      cases rr
      cases rx
      have ec := hcv _ rt
      subst ec
      obtain ⟨ha, _⟩ := I.pin (a, oe) (List.mem_append_left _ List.mem_cons_self)
      obtain ⟨vs, hv⟩ := hf
      obtain ⟨mA, hns, hr⟩ := (show ObjOk X.prog X.w H s.heap dd (.xd fs) from I.hok dd _ ea)
      obtain ⟨od, ho, hl⟩ := lookIn_ns hns
      have J : PySem.W.InstAt s.heap a oe D (some od) := ⟨ha, hz.1, by unfold PySem.W.notCls; rw [hv] <;> rfl, by rw [hz.2]; exact ho⟩
      have hcl : (PySem.W.clsIn X.K D).isSome = true := by
        obtain ⟨cd, hc, _⟩ := PySem.W.any_some C.hd
        rw [hc]
        rfl
      exact PySem.W.kia_one (PySem.W.kitx_exc (ox := oe) (od := some od) hcl C.hg C.hk C.hs C.ha C.hn C.ht C.hm) I.kIn J e (fun z => nomatch z) fun tk => ⟨.bl b, H, I.kept (t' := tk) fun _ _ z => z, rfl, q⟩
end KJ
set_option maxHeartbeats 4000000
namespace KJ
open PySem PySem.Spec PyProof.Rows L2 TL
/-! ### journals -/
def rowT (n : Nat) (r : Row) : List Nat := joinL [32] (rowW n r)
def baseT (g : Forest) : List Nat := joinL [32] (baseW g)
def rowsT : Nat → List Row → List (List Nat)
  | _, [] => []
  | k, r :: l => rowT k r :: rowsT (k + 1) l
def jT (g : Forest) (l : List Row) : List (List Nat) := baseT g :: rowsT 1 l
def stF : Sta → List Row → Sta
  | s, [] => s
  | s, r :: l => stF (stepR s r) l
def jOk (rs : List Nat) : Sta → List Row → Prop
  | _, [] => True
  | s, r :: l => rowOk rs s r ∧ jOk rs (stepR s r) l
theorem rowsT_len : ∀ (l : List Row) (k : Nat), (rowsT k l).length = l.length
  | [], _ => rfl
  | r :: l, k => by
    show (rowsT (k + 1) l).length + 1 = l.length + 1
    rw [rowsT_len l]
theorem rowsT_at : ∀ {l : List Row} {k i : Nat} {r : Row}, l[i]? = some r → (rowsT k l)[i]? = some (rowT (k + i) r)
  | [], _, _, _, e => by simp at e
  | r :: l, k, 0, _, e => by cases Option.some.inj e; rfl
  | r :: l, k, i + 1, r', e => by
    have z := rowsT_at (k := k + 1) (i := i) (l := l) e
    have e2 : k + 1 + i = k + (i + 1) := by omega
    rw [e2] at z
    exact z
theorem rowsT_mem : ∀ {l : List Row} {k : Nat} {p : List Nat}, p ∈ rowsT k l → ∃ n r, p = rowT n r
  | [], _, _, h => absurd h List.not_mem_nil
  | r :: l, k, p, h => by
    have h' : p ∈ rowT k r :: rowsT (k + 1) l := h
    rcases List.mem_cons.mp h' with rfl | h
    · exact ⟨_, _, rfl⟩
    · exact rowsT_mem h
theorem stF_app : ∀ (l m : List Row) (s : Sta), stF s (l ++ m) = stF (stF s l) m
  | [], _, _ => rfl
  | r :: l, m, s => stF_app l m (stepR s r)
theorem stF_take {s : Sta} {l : List Row} {i : Nat} {r : Row} (e : l[i]? = some r) : stF s (l.take (i + 1)) = stepR (stF s (l.take i)) r := by
  rw [List.take_add_one, e, stF_app]
  rfl
theorem jOk_at {rs : List Nat} : ∀ {l : List Row} {s : Sta} {i : Nat} {r : Row}, jOk rs s l → l[i]? = some r → rowOk rs (stF s (l.take i)) r
  | [], _, _, _, _, e => by simp at e
  | r :: l, s, 0, _, h, e => by cases Option.some.inj e; exact h.1
  | r :: l, s, i + 1, r', h, e => jOk_at (l := l) (i := i) h.2 e
theorem jOk_ok {rs : List Nat} : ∀ {l : List Row} {s : Sta}, StaOk rs s → jOk rs s l → StaOk rs (stF s l)
  | [], _, k, _ => k
  | r :: l, s, k, h => jOk_ok (l := l) (k.step h.1) h.2
theorem jOk_take {rs : List Nat} : ∀ {l : List Row} {s : Sta} (i : Nat), jOk rs s l → jOk rs s (l.take i)
  | [], _, i, h => by rw [List.take_nil]; exact h
  | r :: l, s, 0, _ => trivial
  | r :: l, s, i + 1, h => ⟨h.1, jOk_take (l := l) i h.2⟩
theorem jOk_app {rs : List Nat} : ∀ {l m : List Row} {s : Sta}, jOk rs s l → jOk rs (stF s l) m → jOk rs s (l ++ m)
  | [], _, _, _, h => h
  | r :: l, m, s, h, k => ⟨h.1, jOk_app (l := l) h.2 k⟩
/-! what signs are not in a row -/
def sgn (s : Nat) : Prop := s < 32 ∨ 122 < s
theorem spL_free {s : Nat} (h : sgn s) : ∀ {ws : List (List Nat)}, (∀ w ∈ ws, s ∉ w) → s ∉ spL ws
  | [], _ => List.not_mem_nil
  | w :: ws, k => by
    rw [spL_cons, List.mem_cons, List.mem_append]
    rintro (z | z | z)
    · rcases h with h | h <;> omega
    · exact k w (List.mem_cons_self ..) z
    · exact spL_free h (fun v hv => k v (List.mem_cons_of_mem _ hv)) z
theorem join_free {s : Nat} (h : sgn s) {a : List Nat} {ws : List (List Nat)} (k : ∀ w ∈ a :: ws, s ∉ w) : s ∉ joinL [32] (a :: ws) := by
  rw [joinL_sp, List.mem_append]
  rintro (z | z)
  · exact k a (List.mem_cons_self ..) z
  · exact spL_free h (fun v hv => k v (List.mem_cons_of_mem _ hv)) z
def wsgn (s : Nat) : Prop := s < 45 ∨ 122 < s
theorem wfree {s : Nat} (h : wsgn s) : s ∉ wBase ∧ s ∉ wOpen ∧ s ∉ wLay ∧ s ∉ wShut := by
  unfold wsgn at h
  simp only [List.mem_cons, List.not_mem_nil, or_false, not_or]
  omega
theorem rowW_free {s n : Nat} {r : Row} (h : wsgn s) : ∀ w ∈ rowW n r, s ∉ w := by
  obtain ⟨h1, h2, h3, h4⟩ := wfree h
  have hn : s ∉ numL n := numL_free (by unfold wsgn at h; omega)
  cases r with
  | shut =>
    intro w hw
    rcases List.mem_cons.mp hw with rfl | hw
    · exact hn
    · rw [List.mem_singleton.mp hw]
      exact h4
  | op hs =>
    intro w hw
    rcases List.mem_cons.mp hw with rfl | hw
    · exact hn
    · rcases List.mem_cons.mp hw with rfl | hw
      · exact h2
      · obtain ⟨x, _, rfl⟩ := List.mem_map.mp hw
        exact hwL_free (by unfold wsgn at h; omega)
  | ly g =>
    intro w hw
    rcases List.mem_cons.mp hw with rfl | hw
    · exact hn
    · rcases List.mem_cons.mp hw with rfl | hw
      · exact h3
      · obtain ⟨x, _, rfl⟩ := List.mem_map.mp hw
        exact pwL_free (by unfold wsgn at h; omega)
theorem baseW_free {s : Nat} {g : Forest} (h : wsgn s) : ∀ w ∈ baseW g, s ∉ w := by
  intro w hw
  rcases List.mem_cons.mp hw with rfl | hw
  · rw [List.mem_singleton]
    unfold wsgn at h
    omega
  · rcases List.mem_cons.mp hw with rfl | hw
    · exact (wfree h).1
    · obtain ⟨x, _, rfl⟩ := List.mem_map.mp hw
      exact pwL_free (by unfold wsgn at h; omega)
theorem sgn.w {s : Nat} (h : sgn s) : wsgn s := by unfold sgn at h; unfold wsgn; omega
theorem rowW_cons (n : Nat) (r : Row) : ∃ ws, rowW n r = numL n :: ws := by
  cases r with
  | shut => exact ⟨_, rfl⟩
  | op hs => exact ⟨_, rfl⟩
  | ly g => exact ⟨_, rfl⟩
theorem rowT_free {s n : Nat} {r : Row} (h : sgn s) : s ∉ rowT n r := by
  obtain ⟨ws, e⟩ := rowW_cons n r
  unfold rowT
  rw [e]
  exact join_free h (fun w hw => rowW_free (n := n) (r := r) h.w w (by rw [e]; exact hw))
theorem baseT_free {s : Nat} {g : Forest} (h : sgn s) : s ∉ baseT g := join_free h (baseW_free h.w)
theorem jT_free {s : Nat} {g : Forest} {l : List Row} (h : sgn s) : ∀ p ∈ jT g l, s ∉ p := by
  intro p hp
  have hp' : p ∈ baseT g :: rowsT 1 l := hp
  rcases List.mem_cons.mp hp' with rfl | hp
  · exact baseT_free h
  · obtain ⟨n, r, rfl⟩ := rowsT_mem hp
    exact rowT_free h
theorem split_row (n : Nat) (r : Row) : Txt.split (mkS (rowT n r)) (Str.ofString " ") = (rowW n r).map mkS := by
  obtain ⟨ws, e⟩ := rowW_cons n r
  rw [lit_sp]
  exact split_of (by decide) (by rw [e]; simp) (rowW_free (by unfold wsgn; omega))
theorem split_base (g : Forest) : Txt.split (mkS (baseT g)) (Str.ofString " ") = (baseW g).map mkS := by
  rw [lit_sp]
  exact split_of (by decide) (by show _ :: _ ≠ []; simp) (baseW_free (by unfold wsgn; omega))
theorem wv_eq (ws : List (List Nat)) : (ws.map mkS).map V.str = wv ws := by rw [List.map_map]; rfl
theorem joinL_nl : ∀ (ps : List (List Nat)) (t : List Nat), joinL [10] (ps ++ [t]) = (ps.map (· ++ [10])).flatten ++ t
  | [], t => rfl
  | p :: ps, t => by
    cases ps with
    | nil =>
      show p ++ ([10] ++ t) = _
      simp
    | cons q r =>
      have ih := joinL_nl (q :: r) t
      show p ++ ([10] ++ joinL [10] (q :: r ++ [t])) = _
      rw [ih]
      simp
theorem cut_last {xs : List V} {v : V} : cutV (xs ++ [v]) none (some (-1)) = xs := by
  unfold cutV
  rw [HT.sIx_none, List.drop_zero, Nat.sub_zero]
  have e : HT.sIx (xs ++ [v]).length (xs ++ [v]).length (some (-1)) = xs.length := by
    show (if (-1 : Int) < 0 then ((-1 : Int) + ((xs ++ [v]).length : Int)).toNat else min (-1 : Int).toNat (xs ++ [v]).length) = _
    rw [if_pos (by decide), List.length_append, List.length_singleton]
    omega
  rw [e, List.take_left]
theorem at_last {xs : List V} {v : V} : atI (xs ++ [v]) (-1) = some v := by
  unfold atI
  have e : ixN (xs ++ [v]).length (-1) = some xs.length := by
    unfold ixN
    rw [if_neg (by decide), List.length_append, List.length_singleton, if_pos (by omega)]
    exact congrArg some (by omega)
  rw [e]
  show (xs ++ [v])[xs.length]? = _
  rw [List.getElem?_append_right (Nat.le_refl _), Nat.sub_self]
  rfl
theorem strs_lo : ∀ {ps : List (List Nat)}, (∀ p ∈ ps, ∀ s ∈ p, s ≤ 122) → loA 0 (ps.map fun p => PyData.str (mkS p))
  | [], _ => .nil
  | p :: ps, h => .cons (.str (by
      show p.toArray.all (· < 0x110000) = true
      rw [List.all_toArray, List.all_eq_true]
      intro s hs
      have := h p (List.mem_cons_self ..) s hs
      exact decide_eq_true (by omega))) (strs_lo fun q hq => h q (List.mem_cons_of_mem _ hq))
theorem sz2 {n : Nat} (h : n ≤ 100000) : n + 2 ≤ sizeLine := Nat.le_trans (Nat.add_le_add_right h 2) (by decide)
def toldD (g : Forest) (l : List Row) (torn : List Nat) : PyData := .tuple [.int ((l.length + 1 : Nat) : Int), fod (stF ⟨g, none⟩ l).g, pnd (stF ⟨g, none⟩ l).p, .str (mkS torn)]
section
variable {P : Program} {w : World} {K : PySem.W.Frag} {mg : Str → Option Value} {base : Heap} {t1 t2 : Tok} {f : Addr} {fd : FuncData}
def sp_read_journal (C : Addr) : Sp := fun vs H Q E =>
  (∃ (G : Hp) (v : V) (rs : List Nat) (g : Forest) (l : List Row) (torn : List Nat), vs = [v, .str (mkS (joinL [10] (jT g l ++ [torn])))] ∧ Same G H ∧ Rp G v (rd rs) ∧ RsOk rs ∧ Good rs g ∧ jOk rs ⟨g, none⟩ l ∧ 10 ∉ torn ∧
    (joinL [10] (jT g l ++ [torn])).length ≤ 100000 ∧ l.length < 9000 ∧ ∀ G' H' u, Xt [] G H G' H' → Rp G' u (toldD g l torn) → Q u H') ∨
  (∃ (v : V) (rs : List Nat) (torn : List Nat), vs = [v, .str (mkS torn)] ∧ Rp H v (rd rs) ∧ RsOk rs ∧ 10 ∉ torn ∧ torn.length ≤ 100000 ∧ ∀ H' d, Same H H' → H d = none → H' d = some (.xd [(("what" : Str), .int 0)]) → E (.ref C) (some d) H')
theorem ok_read_journal {C D fI cc cda : Addr} (T : Txt mg t1 t2) (T' : PySem.KJX.RfTxt P K C D fI cc cda) (gC : mg "BadJournal" = some (.ref C)) (kC : PySem.W.keepIn K (.ref C) = true) (hS : mg "super" = none)
    (c_made_rooms : Cal P w K mg base 2 "made_rooms" sp_made_rooms) (c_names_of : Cal P w K mg base 2 "names_of" sp_names_of) (c_base_read : Cal P w K mg base 6 "base_read" sp_base_read) (c_row_read : Cal P w K mg base 6 "row_read" sp_row_read)
    (F : FunT K "read_journal" s_read_journal f fd) : FnOk P w K mg base (L2.CX P w) 7 f fd ["rooms", "text"] (sp_read_journal C) := by
  refine F.okX sc_read_journal (fun vs H Q E h => ?_) (fun cdv A outer s H vs Q E hr h => ?_)
  · rcases h with ⟨G, v, rs, g, l, torn, rfl, _⟩ | ⟨v, rs, torn, rfl, _⟩
    · rfl
    · rfl
  · have hu64 := hu64_of hr
    refine ⟨_, (pss_cons (ps_set (i := 0) sc_read_journal.nd rfl (Or.inl rfl) (pe_c c_made_rooms hr (by decide) rfl (pa_cons (pv 0) pa_nil)))
      (pss_cons (ps_set (i := 2) sc_read_journal.nd rfl (Or.inl rfl) (pe_split (pv 1) pe_str))
      (pss_cons (ps_set (i := 3) sc_read_journal.nd rfl (Or.inl rfl) (pe_slice (r := rSlL K) sl_list (pv 2) po_none (po_some (pe_un un_neg pe_int))))
      (pss_cons (ps_if (pt_cmpR (r := rEqD K) (op_eqD hu64) (pv 3) (pe_lst pa_nil) (nomark _)) (pss_one (ps_raise rfl (takes_of rfl rfl rfl rfl) (pmk_err T' gC kC hS hr (pa_cons pe_int pa_nil) rfl))) pss_nil)
      (pss_cons (ps_set (i := 4) sc_read_journal.nd rfl (Or.inl rfl) (pe_c c_names_of hr (by decide) rfl (pa_cons (pv 0) pa_nil)))
      (pss_cons (ps_set (i := 5) sc_read_journal.nd rfl (Or.inl rfl) (pe_c c_base_read hr (by decide) rfl (pa_cons (pv 0) (pa_cons (pv 4) (pa_cons (pe_split (pe_ix (r := rIxL K) ix_list (pv 3) pe_int (fun _ _ => rfl)) pe_str) pa_nil)))))
      (pss_cons (ps_if (pt_cmpR op_isN (pv 5) pe_non (nomark _)) (pss_one ps_never) pss_nil)
      (pss_cons (ps_for (passes_of rfl) rfl (pi_range2 (by rfl) T.range (pa_cons pe_int (pa_cons (pe_callB call_len_seq (by rfl) T.len (by decide +kernel) (pa_cons (pv 3) pa_nil)) pa_nil))) (pg_name (i := 6) sc_read_journal.nd rfl (Or.inl rfl)) (pss_cons (ps_set (i := 7) sc_read_journal.nd rfl (Or.inl rfl) (pe_split (pe_ix (r := rIxL K) ix_list (pv 3) (pv 6) (fun _ _ => rfl)) pe_str))
      (pss_cons (ps_set (i := 5) sc_read_journal.nd rfl (Or.inl rfl) (pe_ifExp (pt_cmpR op_eq (pe_ix (r := rIxL K) ix_list (pv 7) pe_int (fun _ _ => rfl)) (pe_callTy call_str_int (by rfl) T.str (by decide +kernel) (pa_cons (pv 6) pa_nil)) (nomark _)) (pe_c c_row_read hr (by decide) rfl (pa_cons (pv 0) (pa_cons (pv 4) (pa_cons (pv 5) (pa_cons (pv 7) pa_nil))))) pe_non))
      (pss_one (ps_if (pt_cmpR op_isN (pv 5) pe_non (nomark _)) (pss_one ps_never) pss_nil)))))
      (pss_one (ps_ret (pe_tup (pa_cons (pe_callB call_len_seq (by rfl) T.len (by decide +kernel) (pa_cons (pv 3) pa_nil)) (pa_cons (pe_ix (r := rIxT K) ix_tup (pv 5) pe_int (fun _ _ => rfl)) (pa_cons (pe_ix (r := rIxT K) ix_tup (pv 5) pe_int (fun _ _ => rfl)) (pa_cons (pe_ix (r := rIxL K) ix_list (pv 2) (pe_un un_neg pe_int) (fun _ _ => rfl)) pa_nil))))))))))))))), ?_⟩
    rcases h with ⟨G, v, rs, g, l, torn, rfl, sG, hv, ok, gd, jok, nt, hsz, hl, q⟩ | ⟨v, rs, torn, rfl, hv, ok, nt, hsz, q⟩
    · refine ⟨_, rfl, v, rs, rfl, hv.mono sG, ok, fun H1 s1 => ?_⟩
      refine ⟨_, rfl, ⟨_, rfl⟩, _, _, rfl, rfl, (by decide +kernel), ?_, fun p np => ?_⟩
      · rw [mkS_len]
        exact sz2 hsz
      have esp : Txt.split (mkS (joinL [10] (jT g l ++ [torn]))) (Str.ofString "\n") = (jT g l ++ [torn]).map mkS := by
        rw [lit_nl]
        refine split_of (by decide) (by simp) (fun q hq => ?_)
        rcases List.mem_append.mp hq with hq | hq
        · exact jT_free (by unfold sgn; omega) q hq
        · rw [List.mem_singleton.mp hq]
          exact nt
      rw [esp, wv_eq]
      have ew : wv (jT g l ++ [torn]) = wv (jT g l) ++ [V.str (mkS torn)] := by
        show List.map _ _ = _
        rw [List.map_append]
        rfl
      rw [ew]
      have X1 : Xt [] G H G (upd H1 p (.lst (wv (jT g l) ++ [V.str (mkS torn)]))) := (Xt.same sG s1).newM np
      have ep : (upd H1 p (.lst (wv (jT g l) ++ [V.str (mkS torn)]))) p = some (.lst (wv (jT g l) ++ [V.str (mkS torn)])) := upd_same
      revert X1 ep
      generalize upd H1 p (.lst (wv (jT g l) ++ [V.str (mkS torn)])) = H2
      intro X1 ep
      refine ⟨_, rfl, 1, rfl, -1, rfl, p, _, rfl, SqL.of ep, fun r nr => ?_⟩
      rw [cut_last]
      have X2 : Xt [] G H G (upd H2 r (.lst (wv (jT g l)))) := X1.newM nr
      have er : (upd H2 r (.lst (wv (jT g l)))) r = some (.lst (wv (jT g l))) := upd_same
      have ep2 : (upd H2 r (.lst (wv (jT g l)))) p = some (.lst (wv (jT g l) ++ [V.str (mkS torn)])) := by rw [upd_ne (ne_of_none ep nr)]; exact ep
      revert X2 er ep2
      generalize upd H2 r (.lst (wv (jT g l))) = H3
      intro X2 er ep2
      -- rows == []
      refine ⟨_, rfl, Nat.zero_le _, fun z nz => ?_⟩
      have X3 : Xt [] G H G (upd H3 z (.lst [])) := X2.newM nz
      have ez : (upd H3 z (.lst [])) z = some (.lst []) := upd_same
      have er3 : (upd H3 z (.lst [])) r = some (.lst (wv (jT g l))) := by rw [upd_ne (ne_of_none er nz)]; exact er
      have ep3 : (upd H3 z (.lst [])) p = some (.lst (wv (jT g l) ++ [V.str (mkS torn)])) := by rw [upd_ne (ne_of_none ep2 nz)]; exact ep2
      revert X3 ez er3 ep3
      generalize upd H3 z (.lst []) = H4
      intro X3 ez er3 ep3
      have rr : RpA H4 (wv (jT g l)) ((jT g l).map fun p => PyData.str (mkS p)) := by
        have z := RpA.strs (H := H4) ((jT g l).map mkS)
        rw [List.map_map, List.map_map] at z
        exact z
      have sh1 : SeqAt.shaped (.list ((jT g l).map fun p => PyData.str (mkS p))) = true := (lo.lst (strs_lo fun p hp s hs => Nat.le_of_not_lt fun h => jT_free (g := g) (l := l) (by unfold sgn; omega) p hp hs)).shaped (by decide)
      refine ⟨.list ((jT g l).map fun p => PyData.str (mkS p)), .list [], Rp.dp (.lst er3 rr), Rp.dp (.lst ez .nil), sh1, by rfl, _, rfl, ?_⟩
      have eqf : PyData.eqv (.list ((jT g l).map fun p => PyData.str (mkS p))) (.list []) = false := rfl
      rw [eqf]
      refine iteF ?_
      -- names_of(rooms)
      refine ⟨_, rfl, G, v, rs, rfl, X3.gh, hv, ok, fun G5 H5 vn X5 hn => ?_⟩
      have X5' := X3.trans X5
      -- base_read(rooms, names, rows[0].split(" "))
      have hlens : ∀ {i : Nat} {t : List Nat}, (jT g l)[i]? = some t → t.length ≤ 100000 := fun {i t} e => by
        rw [joinL_nl, List.length_append] at hsz
        obtain ⟨a, b, eab⟩ := List.append_of_mem (List.mem_of_getElem? e)
        rw [eab, List.map_append, List.map_cons, List.flatten_append, List.flatten_cons, List.length_append, List.length_append, List.length_append, List.length_singleton] at hsz
        omega
      refine ⟨_, rfl, _, rfl, _, rfl, r, _, 0, _, rfl, rfl, SqL.of (X5.hk er3), atI_nat (j := 0) rfl, ⟨_, rfl⟩, _, _, rfl, rfl, (by decide +kernel), ?_, fun wa nwa => ?_⟩
      · rw [mkS_len]
        exact sz2 (hlens (i := 0) rfl)
      rw [split_base, wv_eq]
      have X6 := X5'.newM (o := .lst (wv (baseW g))) nwa
      have X6' := X5.newM (o := .lst (wv (baseW g))) nwa
      refine ⟨G5, v, vn, wa, rs, g, rfl, X6.gh, hv.mono X6.gg, ok, hn, gd, upd_same, fun G7 H7 vt X7 rt ne => ?_⟩
      refine ⟨_, rfl, rfl, _, rfl, iteDF ne ?_⟩
      have X8 := X6.trans X7
      have X8' := X6'.trans X7
      have lj : (wv (jT g l)).length = l.length + 1 := by
        show (List.map _ _).length = _
        rw [List.length_map]
        show (rowsT 1 l).length + 1 = _
        rw [rowsT_len]
      have hb := r62 (n := (wv (jT g l)).length) (by omega)
      have s0 : StaOk rs ⟨g, none⟩ := ⟨gd, trivial⟩
      refine ⟨_, rfl, r, _, rfl, .inl (SqL.of (X8'.hk er3)), 1, _, rfl, ⟨by decide, by decide, hb.1, hb.2⟩, for_range (fun i σ H' => ∃ (G' : Hp) (vt : V) (y6 y7 : Option V), σ = [some v, some (.str (mkS (joinL [10] (jT g l ++ [torn])))), some (.ref p), some (.ref r), some vn, some vt, y6, y7] ∧ Xt [] G H4 G' H' ∧ Same G5 G' ∧ Rp G' vt (std (stF ⟨g, none⟩ (l.take i)))) ⟨G7, vt, none, none, rfl, X8', X7.gg, rt⟩ ?_ ?_⟩
      · rintro i σ H8 hi ⟨G8, vt8, y6, y7, rfl, X9, s58, rt8⟩
        rw [lj] at hi
        have hi' : i < l.length := by omega
        have e := List.getElem?_eq_getElem hi'
        have e1 : (1 : Int) + (i : Int) = ((1 + i : Nat) : Int) := by omega
        have ej : (jT g l)[1 + i]? = some (rowT (1 + i) l[i]) := by
          have z := rowsT_at (k := 1) e
          rw [Nat.add_comm 1 i] at z ⊢
          exact z
        rw [e1]
        refine ⟨_, rfl, _, rfl, r, _, _, _, rfl, rfl, SqL.of (X9.hk er3), atI_nat (j := 1 + i) (v := V.str (mkS (rowT (1 + i) l[i]))) ?_, ⟨_, rfl⟩, _, _, rfl, rfl, (by decide +kernel), ?_, fun wb nwb => ?_⟩
        · show (List.map _ _)[1 + i]? = _
          rw [List.getElem?_map, ej]
          rfl
        · rw [mkS_len]
          exact sz2 (hlens ej)
        rw [split_row, wv_eq]
        have X10 := X9.newM (o := .lst (wv (rowW (1 + i) l[i]))) nwb
        obtain ⟨ws, ews⟩ := rowW_cons (1 + i) l[i]
        refine ⟨_, rfl, wb, _, 0, V.str (mkS (numL (1 + i))), rfl, rfl, SqL.of upd_same, atI_nat (j := 0) (by rw [ews]; rfl), _, rfl, _, rfl, lg (by omega), rfl, _, rfl, iteD (by rw [← num_mkS]; rfl) ?_⟩
        refine ⟨_, rfl, _, rfl, _, rfl, _, rfl, G8, v, vn, vt8, wb, rs, stF ⟨g, none⟩ (l.take i), 1 + i, l[i], rfl, X10.gh, hv.mono X10.gg, ok, hn.mono s58, rt8, jOk_ok s0 (jOk_take i jok), jOk_at jok e, upd_same, fun G11 H11 u X11 ru ne2 => ?_⟩
        refine ⟨_, rfl, rfl, _, rfl, iteDF ne2 ?_⟩
        refine ⟨G11, u, _, _, rfl, X10.trans X11, s58.trans X11.gg, ?_⟩
        rw [stF_take e]
        exact ru
      · rintro σ H8 ⟨G8, vt8, y6, y7, rfl, X9, s58, rt8⟩
        have en : (((wv (jT g l)).length : Int) - 1).toNat = l.length := by rw [lj]; omega
        rw [en, List.take_length] at rt8
        obtain ⟨c, x, y, rfl, gc, rx, ry⟩ := pair_inv rt8
        have hc := X9.gh _ _ gc
        refine ⟨_, rfl, r, _, rfl, .inl (SqL.of (X9.hk er3)), _, rfl, c, _, 0, _, rfl, rfl, SqT.of hc, atI_nat (j := 0) rfl, _, rfl, c, _, 1, _, rfl, rfl, SqT.of hc, atI_nat (j := 1) rfl, _, rfl, 1, rfl, p, _, -1, _, rfl, rfl, SqL.of (X9.hk ep3), at_last, (by show 4 ≤ sizeLine; decide), fun t nt => ?_⟩
        have gt : G8 t = none := X9.gh.free nt
        have sg := same_new (o := .tup [.int ((wv (jT g l)).length : Int), x, y, .str (mkS torn)]) gt
        refine q _ _ _ ((X3.trans X9).new nt) (.tup upd_same (.cons ?_ (.cons (rx.mono sg) (.cons (ry.mono sg) (.cons (.str _) .nil)))))
        rw [lj]
        exact .int _
    · refine ⟨_, rfl, v, rs, rfl, hv, ok, fun H1 s1 => ?_⟩
      refine ⟨_, rfl, ⟨_, rfl⟩, _, _, rfl, rfl, (by decide +kernel), ?_, fun p np => ?_⟩
      · rw [mkS_len]
        exact sz2 hsz
      have esp : Txt.split (mkS torn) (Str.ofString "\n") = [mkS torn] := by
        rw [lit_nl]
        refine split_of (ps := [torn]) (by decide) (by simp) (fun q hq => ?_)
        rw [List.mem_singleton.mp hq]
        exact nt
      rw [esp]
      have s2 := s1.trans (same_new (o := .lst ([mkS torn].map V.str)) np)
      have ep : (upd H1 p (.lst ([mkS torn].map V.str))) p = some (.lst ([] ++ [V.str (mkS torn)])) := upd_same
      revert s2 ep
      generalize upd H1 p (.lst ([mkS torn].map V.str)) = H2
      intro s2 ep
      refine ⟨_, rfl, 1, rfl, -1, rfl, p, _, rfl, SqL.of ep, fun r nr => ?_⟩
      rw [cut_last]
      have s3 := s2.trans (same_new (o := .lst []) nr)
      refine ⟨_, rfl, Nat.zero_le _, fun z nz => ?_⟩
      have s4 := s3.trans (same_new (o := .lst []) nz)
      have nrz : r ≠ z := ne_of_none upd_same nz
      refine ⟨.list [], .list [], Rp.dp (.lst (by rw [upd_ne nrz]; exact upd_same) .nil), Rp.dp (.lst upd_same .nil), by rfl, by rfl, _, rfl, ?_⟩
      refine iteT ?_
      refine ⟨_, rfl, fun d nd => ?_⟩
      exact q _ d (s4.trans (same_new nd)) (s4.free nd) upd_same
end
end KJ
set_option maxHeartbeats 4000000
namespace KJ
open PySem PySem.Spec PyProof.Rows L2 TL
def SrcOk (b m : Int) : Prop := 0 ≤ b ∧ 0 ≤ m ∧ m < 2147483647
def Src (H : Hp) (a : Addr) : Prop := ∃ b m : Int, H a = some (.lst [.int b, .int m]) ∧ SrcOk b m
theorem Src.upd {H : Hp} {a : Addr} {b m : Int} (h : SrcOk b m) : Src (L2.upd H a (.lst [.int b, .int m])) a := ⟨b, m, upd_same, h⟩
section
variable {P : Program} {w : World} {K : PySem.W.Frag} {mg : Str → Option Value} {base : Heap} {t1 t2 : Tok} {f : Addr} {fd : FuncData}
def sp_take : Sp := fun vs H Q _ => ∃ (a : Addr) (top : Nat), vs = [.ref a, .int (top : Int)] ∧ 0 < top ∧ top ≤ 1000000 ∧ Src H a ∧ ∀ (n : Nat) b m, n < top → SrcOk b m → Q (.int (n : Int)) (upd H a (.lst [.int b, .int m]))
theorem ok_law_take (T : Txt mg t1 t2) (F : FunT K "_law_take" s_law_take f fd) : FnOk P w K mg base CX0 1 f fd ["_law_source", "_law_top"] sp_take := by
  refine F.ok sc_law_take (fun vs H Q E h => ?_) (fun cdv A outer s H vs Q E hr h => ?_)
  · obtain ⟨a, top, rfl, _⟩ := h
    rfl
  · obtain ⟨a, top, rfl, t0, t6, ⟨b, m, ha, hb, hm, hm2⟩, q⟩ := h
    refine ⟨_, (pss_cons (ps_if (pt_cmpR op_gt (pe_ix (r := rIxL K) ix_list (pv 0) pe_int (fun _ _ => rfl)) pe_int (nomark _)) (pss_cons (ps_set (i := 2) sc_law_take.nd rfl (Or.inl rfl) (pe_op op_mod (pe_callTy call_int1 (by rfl) T.int (by decide +kernel) (pa_cons (pe_ix (r := rIxL K) ix_list (pv 0) pe_int (fun _ _ => rfl)) pa_nil)) (pv 1)))
      (pss_cons (ps_asg (pe_op op_fdiv (pe_ix (r := rIxL K) ix_list (pv 0) pe_int (fun _ _ => rfl)) (pv 1)) (pg_sub (pv 0) pe_int set_list))
      (pss_one (ps_ret (pv 2))))) pss_nil)
      (pss_cons (ps_asg (pe_op op_mod (pe_callTy call_int1 (by rfl) T.int (by decide +kernel) (pa_cons (pe_op op_add (pe_op op_mul (pe_ix (r := rIxL K) ix_list (pv 0) pe_int (fun _ _ => rfl)) pe_int) pe_int) pa_nil)) pe_int) (pg_sub (pv 0) pe_int set_list))
      (pss_one (ps_ret (pe_op op_mod (pe_callTy call_int1 (by rfl) T.int (by decide +kernel) (pa_cons (pe_op op_fdiv (pe_op op_mod (pe_callTy call_int1 (by rfl) T.int (by decide +kernel) (pa_cons (pe_op op_mul (pe_ix (r := rIxL K) ix_list (pv 0) pe_int (fun _ _ => rfl)) (pe_ix (r := rIxL K) ix_list (pv 0) pe_int (fun _ _ => rfl))) pa_nil)) pe_int) pe_int) pa_nil)) (pv 1)))))), ?_⟩
    have fin : ∀ (x b' m' : Int), SrcOk b' m' → Q (.int (x % (top : Int))) (upd H a (.lst [.int b', .int m'])) := fun x b' m' h => by
      have h1 := Int.emod_nonneg x (b := (top : Int)) (by omega)
      have h2 := Int.emod_lt_of_pos x (b := (top : Int)) (by omega)
      have e : x % (top : Int) = ((x % (top : Int)).toNat : Int) := by omega
      rw [e]
      exact q _ b' m' (by omega) h
    refine ⟨_, rfl, a, _, 0, _, rfl, rfl, SqL.of ha, atI_nat (j := 0) rfl, _, _, rfl, rfl, _, rfl, ?_⟩
    by_cases hb0 : b > 0
    · refine iteD hb0 ?_
      refine ⟨_, rfl, a, _, 0, _, rfl, rfl, SqL.of ha, atI_nat (j := 0) rfl, .inl ⟨_, rfl, _, rfl, _, _, rfl, rfl, (by show (0 : Int) < top; omega), ?_⟩⟩
      refine ⟨_, rfl, a, _, 0, _, rfl, rfl, SqL.of ha, atI_nat (j := 0) rfl, _, rfl, _, _, rfl, rfl, ⟨by omega, by omega⟩, _, rfl, a, _, 0, 0, rfl, rfl, ha, rfl, ?_⟩
      exact ⟨_, rfl, fin b _ _ ⟨Int.ediv_nonneg hb (by omega), hm, hm2⟩⟩
    · refine iteDF hb0 ?_
      refine ⟨_, rfl, a, _, 1, _, rfl, rfl, SqL.of ha, atI_nat (j := 1) rfl, _, _, rfl, rfl, .inr ⟨by decide, by decide⟩, _, _, rfl, rfl, .inl ⟨_, rfl, _, _, rfl, rfl, (by show (0 : Int) < _; decide), _, rfl, a, _, 1, 1, rfl, rfl, ha, rfl, ?_⟩⟩
      have so : SrcOk b ((m * 39373 + 7) % 2147483647) := ⟨hb, Int.emod_nonneg _ (by decide), Int.emod_lt_of_pos _ (by decide)⟩
      refine ⟨_, rfl, a, _, 1, _, rfl, rfl, SqL.of upd_same, atI_nat (j := 1) rfl, _, rfl, a, _, 1, _, rfl, rfl, SqL.of upd_same, atI_nat (j := 1) rfl, _, _, rfl, rfl, .inr ⟨?_, ?_⟩, .inl ⟨_, rfl, _, _, rfl, rfl, (by show (0 : Int) < _; decide), _, _, rfl, rfl, ⟨by decide, by decide⟩, .inl ⟨_, rfl, _, rfl, _, _, rfl, rfl, (by show (0 : Int) < top; omega), ?_⟩⟩⟩
      · have := so.2.1
        omega
      · have h1 := so.2.2
        have h2 : (2 : Int) ^ 64 = 18446744073709551616 := by decide
        omega
      · exact fin _ _ _ so
def sp_one : Sp := fun vs H Q _ => ∃ (a t : Addr) (xs : List V), vs = [.ref a, .ref t] ∧ H t = some (.lst xs) ∧ xs ≠ [] ∧ xs.length ≤ 1000 ∧ t ≠ a ∧ Src H a ∧ ∀ (i : Nat) x b m, xs[i]? = some x → SrcOk b m → Q x (upd H a (.lst [.int b, .int m]))
theorem ok_law_one (T : Txt mg t1 t2) (c_law_take : Cal P w K mg base 1 "_law_take" sp_take) (F : FunT K "_law_one" s_law_one f fd) : FnOk P w K mg base CX0 2 f fd ["_law_source", "_law_things"] sp_one := by
  refine F.ok sc_law_one (fun vs H Q E h => ?_) (fun cdv A outer s H vs Q E hr h => ?_)
  · obtain ⟨a, t, xs, rfl, _⟩ := h
    rfl
  · obtain ⟨a, t, xs, rfl, ht, ne, hl, nta, sa, q⟩ := h
    have hp := List.length_pos_iff.mpr ne
    refine ⟨_, (pss_one (ps_ret (pe_ix (r := rIxL K) ix_list (pv 1) (pe_c c_law_take hr (by decide) rfl (pa_cons (pv 0) (pa_cons (pe_callB call_len_seq (by rfl) T.len (by decide +kernel) (pa_cons (pv 1) pa_nil)) pa_nil))) (fun _ _ => rfl)))), ?_⟩
    refine ⟨_, rfl, _, rfl, _, rfl, t, _, rfl, .inl (SqL.of ht), a, xs.length, rfl, hp, by omega, sa, fun n b m hn so => ?_⟩
    exact ⟨t, _, _, _, rfl, rfl, SqL.of (by rw [upd_ne nta]; exact ht), atI_nat (List.getElem?_eq_getElem hn), q n _ b m (List.getElem?_eq_getElem hn) so⟩
end
end KJ
set_option maxHeartbeats 4000000
namespace KJ
open PySem PySem.Spec PyProof.Rows L2 TL
theorem map_at {α β : Type} {f : α → β} {l : List α} {i : Nat} {y : β} (e : (l.map f)[i]? = some y) : ∃ x, l[i]? = some x ∧ y = f x := by
  rw [List.getElem?_map] at e
  cases z : l[i]? with
  | none => rw [z] at e; cases e
  | some m => rw [z] at e; exact ⟨m, rfl, (Option.some.inj e).symm⟩
theorem pl_at {H : Hp} {xs : List V} {g : Forest} {i : Nat} {y : V} (hxs : RpA H xs (g.map pd)) (ey : xs[i]? = some y) : ∃ p, g[i]? = some p ∧ Rp H y (pd p) := by
  obtain ⟨d, ed, ry⟩ := hxs.getV ey
  obtain ⟨p, ep, rfl⟩ := map_at ed
  exact ⟨p, ep, ry⟩
theorem joinF_size {g : Forest} (ok : okF g) : (((g.map pwL).map fun l => mkS (32 :: l)).map (·.length)).sum + ((g.map pwL).map fun l => mkS (32 :: l)).length * (Str.ofString "").length ≤ 16777216 := by
  have h1 := sum_le (k := 6) (ys := (g.map pwL).map fun l => mkS (32 :: l)) fun y hy => by
    obtain ⟨l, hl, rfl⟩ := List.mem_map.mp hy
    obtain ⟨p, hp, rfl⟩ := List.mem_map.mp hl
    rw [mkS_len, List.length_cons]
    have := pwL_len (ok.2 p hp)
    omega
  have l24 := ok.1
  rw [List.length_map, List.length_map] at h1 ⊢
  have h2 : (Str.ofString "").length = 0 := by rw [lit_nil, mkS_len]; rfl
  rw [h2, Nat.mul_zero]
  exact len_le (by omega)
section
variable {P : Program} {w : World} {K : PySem.W.Frag} {mg : Str → Option Value} {base : Heap} {t1 t2 : Tok} {f : Addr} {fd : FuncData}
/-! ### _law_spelled -/
theorem ok_law_spelled (T : Txt mg t1 t2) (F : FunT K "_law_spelled" s_law_spelled f fd) : FnOk P w K mg base CX0 1 f fd ["_law_place"] sp_place_word := by
  refine F.ok sc_law_spelled (fun vs H Q E h => ?_) (fun cdv A outer s H vs Q E hr h => ?_)
  · obtain ⟨v, p, rfl, _⟩ := h
    rfl
  · obtain ⟨v, p, rfl, hv, ok, q⟩ := h
    refine ⟨_, (pss_one (ps_ret (pe_ifExp (pt_cmpR op_isN (pv 0) pe_non (nomark _)) pe_str (pe_op op_add_str (pe_op op_add_str (pe_callTy call_str_int (by rfl) T.str (by decide +kernel) (pa_cons (pe_ix (r := rIxT K) ix_tup (pv 0) pe_int (fun _ _ => rfl)) pa_nil)) pe_str) (pe_callTy call_str_int (by rfl) T.str (by decide +kernel) (pa_cons (pe_ix (r := rIxT K) ix_tup (pv 0) pe_int (fun _ _ => rfl)) pa_nil)))))), ?_⟩
    cases p with
    | none =>
      cases pd_none hv
      refine ⟨_, rfl, rfl, _, rfl, iteD rfl ?_⟩
      show Q (.str (Str.ofString "-")) H
      rw [lit_dash]
      exact q
    | some hr' =>
      obtain ⟨h, r⟩ := hr'
      obtain ⟨b, rfl, hb⟩ := pd_some hv
      have hL := pwL_len (p := some (h, r)) ok
      obtain ⟨h1, h2⟩ := ok
      have hL2 : (numL h ++ 46 :: numL r).length ≤ 5 := hL
      rw [List.length_append, List.length_cons] at hL2
      refine ⟨_, rfl, rfl, _, rfl, iteDF (by intro z; cases z) ?_⟩
      refine ⟨_, rfl, b, _, 0, _, rfl, rfl, SqT.of hb, atI_nat (j := 0) rfl, _, rfl, lg (by omega), num h, _, rfl, rfl, ?_, _, rfl, b, _, 1, _, rfl, rfl, SqT.of hb, atI_nat (j := 1) rfl, _, rfl, lg (by omega), _, num r, rfl, rfl, ?_, ?_⟩
      all_goals simp only [num_mkS, lit_dot, app_mkS, mkS_len]
      · exact sz (by rw [List.length_singleton]; omega)
      · exact sz (by rw [List.length_append, List.length_singleton]; omega)
      · have e : numL h ++ [46] ++ numL r = pwL (some (h, r)) := by
          show _ = numL h ++ 46 :: numL r
          rw [List.append_assoc]
          rfl
        rw [e]
        exact q
/-! ### _law_base -/
theorem ok_law_base (T : Txt mg t1 t2) (c_law_spelled : Cal P w K mg base 1 "_law_spelled" sp_place_word) (F : FunT K "_law_base" s_law_base f fd) : FnOk P w K mg base CX0 2 f fd ["_law_forest"] sp_base_text := by
  refine F.ok sc_law_base (fun vs H Q E h => ?_) (fun cdv A outer s H vs Q E hr h => ?_)
  · obtain ⟨v, g, rfl, _⟩ := h
    rfl
  · obtain ⟨v, g, rfl, hv, ok, q⟩ := h
    obtain ⟨a, xs, rfl, ha, hxs, hlen⟩ := fd_inv hv
    have hl := spF_len ok
    refine ⟨_, (pss_one (ps_ret (pe_op op_add_str (pe_op op_add_str pe_str (pe_join pe_str (pe_lc (own := [("_law_place", 1)]) (g := gName 1) (tt := tYes) (by rfl) sc_law_base.nd (pi_tup (pv 0)) (blkOk_by (own := [("_law_place", 1)]) (N := N_law_base) (sc := defScope s_law_base) (by decide +kernel)) (fun _ _ _ _ _ => (pg_name (i := 1) sc_law_base.nd rfl (Or.inl rfl))) (fun _ _ _ _ _ => pts_nil) (fun _ _ _ _ _ => (pe_op op_add_str pe_str (pe_c c_law_spelled hr (by decide) rfl (pa_cons (pv 1) pa_nil))))))) pe_str))), ?_⟩
    refine ⟨⟨_, rfl⟩, _, rfl, a, rfl, ⟨_, SqT.of ha⟩, fun D nD => lc_tup (xs := xs) (fun i H' => Same H H' ∧ H' D = some (.lst ((g.take i).map fun p => V.str (mkS (32 :: pwL p))))) ⟨same_new nD, upd_same⟩ (fun i H' _ h => SqT.of (h.1 _ _ ha)) ?_ ?_⟩
    · rintro i y H1 ey ⟨sm, eD⟩
      obtain ⟨p, ep, ry⟩ := pl_at hxs ey
      have okp := ok.2 p (List.mem_of_getElem? ep)
      have hi := (List.getElem?_eq_some_iff.mp ep).1
      have l24 := ok.1
      refine ⟨rfl, _, rfl, y, p, rfl, ry.mono sm, okp, Str.ofString " ", _, rfl, rfl, ?_, _, eD, ?_, fun b o e => ?_, ?_⟩
      · rw [lit_sp, mkS_len, mkS_len]
        have := pwL_len okp
        exact sz (by rw [List.length_singleton]; omega)
      · rw [List.length_map, List.length_take]
        exact small1000 (by omega)
      · rw [upd_ne (ne_of_none e nD)]
        exact sm b o e
      · rw [upd_same, lit_sp, app_mkS, List.take_add_one, ep, List.map_append]
        rfl
    · rintro H1 ⟨sm, eD⟩
      have e1 : g.take xs.length = g := List.take_of_length_le (by omega)
      rw [e1] at eD
      refine ⟨_, D, (g.map pwL).map fun l => mkS (32 :: l), rfl, rfl, .inl (SqL.of ?_), ?_, ?_⟩
      · rw [eD, List.map_map, List.map_map]
        rfl
      · exact joinF_size ok
      · rw [spL_map]
        refine ⟨_, _, rfl, rfl, ?_, _, _, rfl, rfl, ?_, ?_⟩
        · rw [lit_base0, mkS_len, mkS_len]
          exact sz (by show 6 + _ ≤ 100000; omega)
        · rw [lit_base0, lit_nl, app_mkS, mkS_len, mkS_len, List.length_append]
          exact sz (by show 6 + _ + 1 ≤ 100000; omega)
        · rw [base_eq]
          exact q _ sm
/-! ### _law_lay -/
theorem ok_law_lay (T : Txt mg t1 t2) (c_law_spelled : Cal P w K mg base 1 "_law_spelled" sp_place_word) (F : FunT K "_law_lay" s_law_lay f fd) : FnOk P w K mg base CX0 2 f fd ["_law_number_here", "_law_forest"] sp_lay_text := by
  refine F.ok sc_law_lay (fun vs H Q E h => ?_) (fun cdv A outer s H vs Q E hr h => ?_)
  · obtain ⟨n, v, g, rfl, _⟩ := h
    rfl
  · obtain ⟨n, v, g, rfl, hn, hv, ok, q⟩ := h
    obtain ⟨a, xs, rfl, ha, hxs, hlen⟩ := fd_inv hv
    have hl := spF_len ok
    have h4 := num_len hn
    refine ⟨_, (pss_one (ps_ret (pe_op op_add_str (pe_op op_add_str (pe_op op_add_str (pe_callTy call_str_int (by rfl) T.str (by decide +kernel) (pa_cons (pv 0) pa_nil)) pe_str) (pe_join pe_str (pe_lc (own := [("_law_place", 2)]) (g := gName 2) (tt := tYes) (by rfl) sc_law_lay.nd (pi_tup (pv 1)) (blkOk_by (own := [("_law_place", 2)]) (N := N_law_lay) (sc := defScope s_law_lay) (by decide +kernel)) (fun _ _ _ _ _ => (pg_name (i := 2) sc_law_lay.nd rfl (Or.inl rfl))) (fun _ _ _ _ _ => pts_nil) (fun _ _ _ _ _ => (pe_op op_add_str pe_str (pe_c c_law_spelled hr (by decide) rfl (pa_cons (pv 2) pa_nil))))))) pe_str))), ?_⟩
    refine ⟨_, rfl, _, rfl, lg (by omega), num n, _, rfl, rfl, ?_, ⟨_, rfl⟩, _, rfl, a, rfl, ⟨_, SqT.of ha⟩, fun D nD => lc_tup (xs := xs) (fun i H' => Same H H' ∧ H' D = some (.lst ((g.take i).map fun p => V.str (mkS (32 :: pwL p))))) ⟨same_new nD, upd_same⟩ (fun i H' _ h => SqT.of (h.1 _ _ ha)) ?_ ?_⟩
    · rw [num_mkS, lit_lay, mkS_len, mkS_len]; exact sz (by show _ + 4 ≤ 100000; omega)
    · rintro i y H1 ey ⟨sm, eD⟩
      obtain ⟨p, ep, ry⟩ := pl_at hxs ey
      have okp := ok.2 p (List.mem_of_getElem? ep)
      have hi := (List.getElem?_eq_some_iff.mp ep).1
      have l24 := ok.1
      refine ⟨rfl, _, rfl, y, p, rfl, ry.mono sm, okp, Str.ofString " ", _, rfl, rfl, ?_, _, eD, ?_, fun b o e => ?_, ?_⟩
      · rw [lit_sp, mkS_len, mkS_len]
        have := pwL_len okp
        exact sz (by rw [List.length_singleton]; omega)
      · rw [List.length_map, List.length_take]
        exact small1000 (by omega)
      · rw [upd_ne (ne_of_none e nD)]
        exact sm b o e
      · rw [upd_same, lit_sp, app_mkS, List.take_add_one, ep, List.map_append]
        rfl
    · rintro H1 ⟨sm, eD⟩
      have e1 : g.take xs.length = g := List.take_of_length_le (by omega)
      rw [e1] at eD
      refine ⟨_, D, (g.map pwL).map fun l => mkS (32 :: l), rfl, rfl, .inl (SqL.of ?_), ?_, ?_⟩
      · rw [eD, List.map_map, List.map_map]
        rfl
      · exact joinF_size ok
      · rw [spL_map]
        refine ⟨_, _, rfl, rfl, ?_, _, _, rfl, rfl, ?_, ?_⟩
        · rw [num_mkS, lit_lay, app_mkS, mkS_len, mkS_len, List.length_append]; exact sz (by show _ + 4 + _ ≤ 100000; omega)
        · rw [num_mkS, lit_lay, lit_nl, app_mkS, app_mkS, mkS_len, mkS_len, List.length_append, List.length_append]; exact sz (by show _ + 4 + _ + 1 ≤ 100000; omega)
        · rw [lay_eq]
          exact q _ sm
/-! ### _law_open: the row a list -/
def sp_lopen : Sp := fun vs H Q _ => ∃ (n : Nat) (a : Addr) (xs : List V) (hs : List Hang), vs = [.int (n : Int), .ref a] ∧ n < 10000 ∧ H a = some (.lst xs) ∧ RpA H xs (hs.map hd) ∧ okH hs ∧ ∀ H', Same H H' → Q (.str (mkS (openL n hs))) H'
theorem ok_law_open (T : Txt mg t1 t2) (c_law_spelled : Cal P w K mg base 1 "_law_spelled" sp_place_word) (F : FunT K "_law_open" s_law_open f fd) : FnOk P w K mg base CX0 2 f fd ["_law_number_here", "_law_row"] sp_lopen := by
  refine F.ok sc_law_open (fun vs H Q E h => ?_) (fun cdv A outer s H vs Q E hr h => ?_)
  · obtain ⟨n, v, xs, hs, rfl, _⟩ := h
    rfl
  · obtain ⟨n, a, xs, hs, rfl, hn, ha, hxs, ok, q⟩ := h
    have hlen : xs.length = hs.length := by rw [hxs.len, List.length_map]
    refine ⟨_, (pss_one (ps_ret (pe_op op_add_str (pe_op op_add_str (pe_op op_add_str (pe_callTy call_str_int (by rfl) T.str (by decide +kernel) (pa_cons (pv 0) pa_nil)) pe_str) (pe_join pe_str (pe_lc (own := [("_law_hang", 2)]) (g := gName 2) (tt := tYes) (by rfl) sc_law_open.nd (pi_list (pv 1)) (blkOk_by (own := [("_law_hang", 2)]) (N := N_law_open) (sc := defScope s_law_open) (by decide +kernel)) (fun _ _ _ _ _ => (pg_name (i := 2) sc_law_open.nd rfl (Or.inl rfl))) (fun _ _ _ _ _ => pts_nil) (fun _ _ _ _ _ => (pe_op op_add_str (pe_op op_add_str (pe_op op_add_str pe_str (pe_callTy call_str_int (by rfl) T.str (by decide +kernel) (pa_cons (pe_ix (r := rIxT K) ix_tup (pv 2) pe_int (fun _ _ => rfl)) pa_nil))) pe_str) (pe_c c_law_spelled hr (by decide) rfl (pa_cons (pe_ix (r := rIxT K) ix_tup (pv 2) pe_int (fun _ _ => rfl)) pa_nil))))))) pe_str))), ?_⟩
    have hl := spH_len ok
    have h4 := num_len hn
    have l24 := ok.1
    refine ⟨_, rfl, _, rfl, lg (by omega), num n, _, rfl, rfl, ?_, ⟨_, rfl⟩, _, rfl, a, rfl, ⟨_, SqL.of ha⟩, fun D nD => lc_list (xs := xs) (fun i H' => Same H H' ∧ H' D = some (.lst ((hs.take i).map fun p => V.str (mkS (32 :: hwL p))))) ⟨same_new nD, upd_same⟩ (fun i H' _ h => SqL.of (h.1 _ _ ha)) ?_ ?_⟩
    · rw [num_mkS, lit_open, mkS_len, mkS_len]; exact sz (by show _ + 5 ≤ 100000; omega)
    · rintro i y H1 ey ⟨sm, eD⟩
      obtain ⟨p, ep, ry⟩ := hang_at hxs ey
      have okp := ok.2 p (List.mem_of_getElem? ep)
      have hi := (List.getElem?_eq_some_iff.mp ep).1
      have l8 := hwL_len okp.1 okp.2
      have l2 := numL_len (n := p.1) (k := 2) (by omega) (by omega)
      have l5 := pwL_len okp.2
      obtain ⟨b, z, rfl, hb, rz⟩ := hd_inv ry
      refine ⟨rfl, _, rfl, b, _, 0, _, rfl, rfl, SqT.of (sm _ _ hb), atI_nat (j := 0) rfl, _, rfl, lg (by omega), _, num p.1, rfl, rfl, ?_, _, _, rfl, rfl, ?_, ?_⟩
      · rw [lit_sp, num_mkS, mkS_len, mkS_len]; exact sz (by show 1 + _ ≤ 100000; omega)
      · rw [lit_sp, num_mkS, lit_col, app_mkS, mkS_len, mkS_len, List.length_append]; exact sz (by show 1 + _ + 1 ≤ 100000; omega)
      refine ⟨_, rfl, b, _, 1, _, rfl, rfl, SqT.of (sm _ _ hb), atI_nat (j := 1) rfl, z, p.2, rfl, rz.mono sm, okp.2, _, _, rfl, rfl, ?_, _, eD, ?_, fun c o e => ?_, ?_⟩
      · rw [lit_sp, num_mkS, lit_col, app_mkS, app_mkS, mkS_len, mkS_len, List.length_append, List.length_append]; exact sz (by show 1 + _ + 1 + _ ≤ 100000; omega)
      · rw [List.length_map, List.length_take]
        exact small1000 (by omega)
      · rw [upd_ne (ne_of_none e nD)]
        exact sm c o e
      · rw [upd_same, lit_sp, num_mkS, lit_col, app_mkS, app_mkS, app_mkS, List.take_add_one, ep, List.map_append]
        have e5 : [32] ++ numL p.1 ++ [58] ++ pwL p.2 = 32 :: hwL p := by
          show _ = 32 :: (numL p.1 ++ 58 :: pwL p.2)
          simp only [List.append_assoc, List.cons_append, List.nil_append]
        rw [e5]
        rfl
    · rintro H1 ⟨sm, eD⟩
      have e1 : hs.take xs.length = hs := List.take_of_length_le (by omega)
      rw [e1] at eD
      refine ⟨_, D, (hs.map hwL).map fun l => mkS (32 :: l), rfl, rfl, .inl (SqL.of ?_), ?_, ?_⟩
      · rw [eD, List.map_map, List.map_map]
        rfl
      · have h1 := sum_le (k := 9) (ys := (hs.map hwL).map fun l => mkS (32 :: l)) fun y hy => by
          obtain ⟨l, hl, rfl⟩ := List.mem_map.mp hy
          obtain ⟨p, hp, rfl⟩ := List.mem_map.mp hl
          rw [mkS_len, List.length_cons]
          have := hwL_len (ok.2 p hp).1 (ok.2 p hp).2
          omega
        rw [List.length_map, List.length_map] at h1 ⊢
        have h2 : (Str.ofString "").length = 0 := by rw [lit_nil, mkS_len]; rfl
        rw [h2, Nat.mul_zero]
        exact len_le (by omega)
      · rw [spL_map]
        refine ⟨_, _, rfl, rfl, ?_, _, _, rfl, rfl, ?_, ?_⟩
        · rw [num_mkS, lit_open, app_mkS, mkS_len, mkS_len, List.length_append]; exact sz (by show _ + 5 + _ ≤ 100000; omega)
        · rw [num_mkS, lit_open, lit_nl, app_mkS, app_mkS, mkS_len, mkS_len, List.length_append, List.length_append]; exact sz (by show _ + 5 + _ + 1 ≤ 100000; omega)
        · rw [open_eq]
          exact q _ sm
/-! ### _law_number -/
def sp_number : Sp := fun vs H Q _ => ∃ (n m : Nat), vs = [.int (n : Int), .int (m : Int)] ∧ n < m ∧ Q (.bl true) H
theorem ok_law_number (T : Txt mg t1 t2) (F : FunT K "_law_number" s_law_number f fd) : FnOk P w K mg base CX0 1 f fd ["_law_thing", "_law_most"] sp_number := by
  refine F.ok sc_law_number (fun vs H Q E h => ?_) (fun cdv A outer s H vs Q E hr h => ?_)
  · obtain ⟨n, m, rfl, _⟩ := h
    rfl
  · obtain ⟨n, m, rfl, hlt, q⟩ := h
    refine ⟨_, (pss_one (ps_ret (pe_and (pe_callB call_isi (by rfl) T.isinstance (by decide +kernel) (pa_cons (pv 0) (pa_cons (pe_bltn (v := .ty "int") (u := .type "int") (by rfl) T.int (by decide +kernel) rfl) pa_nil))) (pe_and (pe_not (pe_callB call_isi (by rfl) T.isinstance (by decide +kernel) (pa_cons (pv 0) (pa_cons (pe_bltn (v := .ty "bool") (u := .type "bool") (by rfl) T.bool (by decide +kernel) rfl) pa_nil)))) (pe_one (pe_chain op_le op_lt pe_int (pv 0) (pv 1))))))), ?_⟩
    refine ⟨_, rfl, .int (n : Int), .ty "int", .type "int", .type "int", true, rfl, .ty _, .base (.int (n : Int)), kit_ty (by decide +kernel), true, rfl, iteT ?_⟩
    refine ⟨_, rfl, .int (n : Int), .ty "bool", .type "int", .type "bool", false, rfl, .ty _, .base (.int (n : Int)), kit_ty (by decide +kernel), false, rfl, true, rfl, iteT ?_⟩
    refine ⟨_, rfl, _, _, rfl, rfl, _, rfl, iteD (by omega) ⟨_, rfl, _, _, rfl, rfl, ?_⟩⟩
    show Q (V.bl (decide ((n : Int) < (m : Int)))) H
    rw [decide_eq_true (by omega)]
    exact q
end
end KJ
set_option maxHeartbeats 4000000
namespace KJ
open PySem PySem.Spec PyProof.Rows L2 TL
abbrev nts (ns : List Nat) : List V := ns.map fun n : Nat => V.int (n : Int)
abbrev cScope (_ : Stmt) : Scope := { kind := ScopeKind.function, names := [(Str.ofString ".0", NameKind.local), (Str.ofString "_law_y", NameKind.local), (Str.ofString "_law_climb", NameKind.globalImplicit), (Str.ofString "_law_forest", NameKind.cell), (Str.ofString "_law_x", NameKind.cell)], isGenerator := false, isCoroutine := false }
theorem nts_erase : ∀ (l : List Nat) (n : Nat), (nts l).eraseIdx n = nts (l.eraseIdx n)
  | [], _ => rfl
  | _ :: _, 0 => rfl
  | x :: l, n + 1 => congrArg (V.int (x : Int) :: ·) (nts_erase l n)
theorem erase_perm : ∀ (l : List Nat) (n : Nat) (h : n < l.length), List.Perm (l[n] :: l.eraseIdx n) l
  | [], _, h => absurd h (Nat.not_lt_zero _)
  | _ :: _, 0, _ => List.Perm.refl _
  | x :: l, n + 1, h => (List.Perm.swap x (l[n]'(Nat.lt_of_succ_lt_succ h)) (l.eraseIdx n)).trans ((erase_perm l n (Nat.lt_of_succ_lt_succ h)).cons x)
theorem i63 {n : Nat} (h : n ≤ 100000) : (n : Int) < 2 ^ 63 := by
  have : (2 : Int) ^ 63 = 9223372036854775808 := by decide
  omega
theorem nts_snoc (l : List Nat) (x : Nat) : nts (l ++ [x]) = nts l ++ [V.int (x : Int)] := List.map_append
theorem ne_src {H : Hp} {a p : Addr} (s : Src H a) (n : H p = none) : p ≠ a := by
  rintro rfl
  obtain ⟨b, m, e, _⟩ := s
  rw [n] at e
  cases e
theorem Src.keep {G H G' H' : Hp} {a : Addr} (s : Src H a) (X : Xt [] G H G' H') : Src H' a := by
  obtain ⟨b, m, e, o⟩ := s
  exact ⟨b, m, X.hk e, o⟩
theorem Src.same {H H' : Hp} {a : Addr} (s : Src H a) (X : Same H H') : Src H' a := by
  obtain ⟨b, m, e, o⟩ := s
  exact ⟨b, m, X _ _ e, o⟩
theorem Src.ne {H H' : Hp} {a c : Addr} {o : HO} (s : Src H a) (n : c ≠ a) : Src (L2.upd H c o) a := by
  obtain ⟨b, m, e, k⟩ := s
  exact ⟨b, m, by rw [upd_ne (Ne.symm n)]; exact e, k⟩
section
variable {P : Program} {w : World} {K : PySem.W.Frag} {mg : Str → Option Value} {base : Heap} {t1 t2 : Tok} {f : Addr} {fd : FuncData}
theorem ok_law_hung (T : Txt mg t1 t2) (F : FunT K "_law_hung" s_law_hung f fd) : FnOk P w K mg base CX0 1 f fd ["_law_forest", "_law_x", "_law_place"] sp_put := by
  refine F.ok sc_law_hung (fun vs H Q E h => ?_) (fun cdv A outer s H vs Q E hr h => ?_)
  · obtain ⟨a, xs, x, y, rfl, _⟩ := h
    rfl
  · obtain ⟨a, xs, x, y, rfl, ha, hx, hl, q⟩ := h
    refine ⟨_, (pss_one (ps_ret (pe_op op_catA (pe_op op_catA (pe_slice (r := rSlA K) sl_tupA (pv 0) po_none (po_some (pv 1))) (pe_tup (pa_cons (pv 2) pa_nil))) (pe_slice (r := rSlA K) sl_tupA (pv 0) (po_some (pe_op op_add (pv 1) pe_int)) po_none)))), ?_⟩
    exact put_reads rfl rfl rfl ha hx hl q
/-! ### _law_mixed -/
def sp_mixed : Sp := fun vs H Q _ => ∃ (G : Hp) (a t : Addr) (ns : List Nat), vs = [.ref a, .ref t] ∧ Same G H ∧ G a = none ∧ Src H a ∧ H t = some (.lst (nts ns)) ∧ t ≠ a ∧ ns.length ≤ 24 ∧
  ∀ H' p ms, Xt [a] G H G H' → Src H' a → List.Perm ms ns → H p = none → H' p = some (.lst (nts ms)) → Q (.ref p) H'
theorem ok_law_mixed (T : Txt mg t1 t2) (c_law_take : Cal P w K mg base 1 "_law_take" sp_take) (F : FunT K "_law_mixed" s_law_mixed f fd) : FnOk P w K mg base CX0 2 f fd ["_law_source", "_law_things"] sp_mixed := by
  refine F.ok sc_law_mixed (fun vs H Q E h => ?_) (fun cdv A outer s H vs Q E hr h => ?_)
  · obtain ⟨G, a, t, ns, rfl, _⟩ := h
    rfl
  · obtain ⟨G, a, t, ns, rfl, sG, ga, sa, ht, nta, hl, q⟩ := h
    refine ⟨_, (pss_cons (ps_par (i := 2) (j := 3) (by rfl) sc_law_mixed.nd rfl rfl (by decide) rfl rfl (pa_cons (pe_callTy call_list_of (by rfl) T.list (by decide +kernel) (pa_cons (pv 1) pa_nil)) (pa_cons (pe_lst pa_nil) pa_nil)) (by rfl))
      (pss_cons (ps_for PassesOwn.never rfl (pi_range1 (by rfl) T.range (pa_cons (pe_callB call_len_seq (by rfl) T.len (by decide +kernel) (pa_cons (pv 1) pa_nil)) pa_nil)) (pg_name (i := 4) sc_law_mixed.nd rfl (Or.inl rfl)) (pss_one (ps_expr (pe_bm PySem.F.plainAttrs_list PySem.F.slot_list_append PySem.F.type_list_append mt_append (pv 3) (pa_cons (pe_bm PySem.F.plainAttrs_list PySem.F.slot_list_pop PySem.F.type_list_pop mt_popAt (pv 2) (pa_cons (pe_c c_law_take hr (by decide) rfl (pa_cons (pv 0) (pa_cons (pe_callB call_len_seq (by rfl) T.len (by decide +kernel) (pa_cons (pv 2) pa_nil)) pa_nil))) pa_nil)) pa_nil)))))
      (pss_one (ps_ret (pv 3))))), ?_⟩
    have hb := r62 (n := (nts ns).length) (by rw [List.length_map]; omega)
    refine ⟨_, rfl, t, _, rfl, .inl (SqL.of ht), fun l nl => ⟨Nat.zero_le _, fun o no => ⟨_, _, rfl, ?_⟩⟩⟩
    have nlo : l ≠ o := ne_of_none upd_same no
    have no0 : H o = none := by rw [upd_ne nlo.symm] at no; exact no
    have nla := ne_src sa nl
    have noa := ne_src sa no0
    have X0 : Xt [a] G H G (upd (upd H l (.lst (nts ns))) o (.lst [])) := ((Xt.refl sG).newM nl).newM no
    refine ⟨_, rfl, t, _, rfl, .inl (SqL.of (X0.hh _ _ (by simpa using nta) ht)), _, rfl, hb.1, hb.2, for_range (fun i σ H' => ∃ (left found : List Nat) (y4 : Option V), σ = [some (.ref a), some (.ref t), some (.ref l), some (.ref o), y4] ∧ Xt [a] G H G H' ∧ Src H' a ∧ H' l = some (.lst (nts left)) ∧ H' o = some (.lst (nts found)) ∧ List.Perm (found ++ left) ns ∧ left.length + i = ns.length)
      ⟨ns, [], none, rfl, X0, (Src.ne (H' := H) (Src.ne (H' := H) sa nla) noa), by rw [upd_ne nlo]; exact upd_same, upd_same, List.Perm.refl _, rfl⟩ ?_ ?_⟩
    · rintro i σ H1 hi ⟨left, found, y4, rfl, X1, s1, el, eo, pm, hlen⟩
      rw [List.length_map] at hi
      have hi' : i < ns.length := by simpa using hi
      refine ⟨_, rfl, .inl ⟨rfl, _, SqL.of eo⟩, _, rfl, .inl ⟨rfl, _, SqL.of el⟩, _, rfl, _, rfl, l, _, rfl, .inl (SqL.of el), a, left.length, by rw [List.length_map]; rfl, by omega, by omega, s1, fun n b m hn so => ?_⟩
      have el2 : (upd H1 a (.lst [.int b, .int m])) l = some (.lst (nts left)) := by rw [upd_ne nla]; exact el
      refine ⟨l, _, (n : Int), n, _, rfl, rfl, el2, by omega, i63 (by omega), ?_, rd_at (List.getElem?_eq_getElem hn), ?_⟩
      · exact (ixN_seq (n := (nts left).length) (i := (n : Int)) (j := n) (by unfold ixN; rw [List.length_map, if_pos (by omega), if_pos (by omega), Int.toNat_natCast])).1
      · refine ⟨o, _, _, rfl, rfl, by rw [upd_ne (Ne.symm nlo), upd_ne noa]; exact eo, ?_, ?_⟩
        · have z := pm.length_eq
          rw [List.length_append] at z
          rw [List.length_map]
          exact small1000 (by omega)
        · have e1 : (nts left).eraseIdx n = nts (left.eraseIdx n) := nts_erase left n
          refine ⟨left.eraseIdx n, found ++ [left[n]], _, rfl, ((X1.mut ga (.inl (List.mem_singleton.mpr rfl))).mut (sG.free nl) (.inr nl)).mut (sG.free no0) (.inr no0), Src.ne (H' := H) (Src.ne (H' := H) (Src.upd so) nla) noa, ?_, ?_, ?_, ?_⟩
          · rw [upd_ne nlo, upd_same, e1]
          · rw [upd_same, nts_snoc]
          · rw [List.append_assoc]
            exact ((List.Perm.refl found).append (erase_perm left n hn)).trans pm
          · rw [List.length_eraseIdx_of_lt hn]
            omega
    · rintro σ H1 ⟨left, found, y4, rfl, X1, s1, el, eo, pm, hlen⟩
      have z : left.length = 0 := by
        have e : ((nts ns).length : Int).toNat = ns.length := by rw [List.length_map]; omega
        rw [e] at hlen
        omega
      have z2 := List.length_eq_zero_iff.mp z
      subst z2
      rw [List.append_nil] at pm
      exact ⟨_, rfl, q _ _ _ X1 s1 pm no0 eo⟩
/-! ### _law_climb -/
def sp_climb : Sp := fun vs H Q _ => ∃ (v : V) (g : Forest) (x : Nat) (l : List Nat), vs = [v, .int (x : Int)] ∧ Rp H v (fod g) ∧ g.length ≤ 24 ∧ Anc g x l ∧
  ∀ H' p zs (qs : List (Nat × Nat)), Same H H' → H p = none → H' p = some (.lst zs) → qs.map (·.1) = l → RpA H zs (qs.map fun q => pd (some q)) → Q (.ref p) H'
theorem ok_law_climb (T : Txt mg t1 t2) (F : FunT K "_law_climb" s_law_climb f fd) : FnOk P w K mg base CX0 1 f fd ["_law_forest", "_law_x"] sp_climb := by
  refine F.ok sc_law_climb (fun vs H Q E h => ?_) (fun cdv A outer s H vs Q E hr h => ?_)
  · obtain ⟨v, g, x, l, rfl, _⟩ := h
    rfl
  · obtain ⟨v, g, x, l, rfl, hv, hl, an, q⟩ := h
    obtain ⟨a, xs, rfl, ha, hxs, hlen⟩ := fd_inv hv
    have hb := r62 (n := xs.length) (by omega)
    have l24 := an.len
    refine ⟨_, (pss_cons (ps_par (i := 2) (j := 3) (by rfl) sc_law_climb.nd rfl rfl (by decide) rfl rfl (pa_cons (pe_lst pa_nil) (pa_cons (pe_ix (r := rIxT K) ix_tup (pv 0) (pv 1) (fun _ _ => rfl)) pa_nil)) (by rfl))
      (pss_cons (ps_for PassesOwn.never rfl (pi_range1 (by rfl) T.range (pa_cons (pe_callB call_len_seq (by rfl) T.len (by decide +kernel) (pa_cons (pv 0) pa_nil)) pa_nil)) (pg_name (i := 4) sc_law_climb.nd rfl (Or.inl rfl)) (pss_cons (ps_if (pt_cmpR op_isN (pv 3) pe_non (nomark _)) (pss_one ps_break) pss_nil)
      (pss_cons (ps_expr (pe_bm PySem.F.plainAttrs_list PySem.F.slot_list_append PySem.F.type_list_append mt_append (pv 2) (pa_cons (pv 3) pa_nil)))
      (pss_one (ps_set (i := 3) sc_law_climb.nd rfl (Or.inl rfl) (pe_ix (r := rIxT K) ix_tup (pv 0) (pe_ix (r := rIxT K) ix_tup (pv 3) pe_int (fun _ _ => rfl)) (fun _ _ => rfl)))))))
      (pss_one (ps_ret (pv 2))))), ?_⟩
    refine ⟨Nat.zero_le _, fun o no => ?_⟩
    have s1 : Same H (upd H o (.lst [])) := same_new no
    obtain ⟨p0, e0⟩ : ∃ p0, g[x]? = some p0 := ⟨_, List.getElem?_eq_getElem an.lt⟩
    obtain ⟨y0, ey0, ry0⟩ := fd_at hxs e0
    refine ⟨_, rfl, _, rfl, a, _, _, _, rfl, rfl, SqT.of (s1 _ _ ha), atI_nat ey0, _, _, rfl, ?_⟩
    refine ⟨_, rfl, a, _, rfl, .inr (SqT.of (s1 _ _ ha)), _, rfl, hb.1, hb.2, for_range (fun i σ H' => ∃ (y : V) (here : Nat) (p : Place) (zs : List V) (qs : List (Nat × Nat)) (y4 : Option V), i ≤ l.length ∧ σ = [some (.ref a), some (.int (x : Int)), some (.ref o), some y, y4] ∧ Same H H' ∧ H' o = some (.lst zs) ∧ qs.map (·.1) = l.take i ∧
      RpA H zs (qs.map fun q => pd (some q)) ∧ (x :: l)[i]? = some here ∧ g[here]? = some p ∧ Rp H y (pd p)) ⟨y0, x, p0, [], [], none, Nat.zero_le _, rfl, s1, upd_same, rfl, .nil, rfl, e0, ry0⟩ ?_ ?_⟩
    · rintro i σ H1 hi ⟨y, here, p, zs, qs, y4, hil, rfl, sm, eo, eqs, rz, eh, ep, ry⟩
      have an' := an.at eh
      generalize hd' : l.drop i = l' at an'
      cases an' with
      | root e =>
        rw [ep] at e
        cases Option.some.inj e
        cases pd_none ry
        have ei : l.take i = l := by
          have z := List.take_append_drop i l
          rw [hd', List.append_nil] at z
          exact z
        rw [ei] at eqs
        refine ⟨_, rfl, rfl, _, rfl, iteD rfl ?_⟩
        exact ⟨_, rfl, q _ _ _ _ sm no eo eqs rz⟩
      | @step _ h r l2 e an2 =>
        rw [ep] at e
        cases Option.some.inj e
        obtain ⟨b, rfl, hb⟩ := pd_some ry
        have eh2 : l[i]? = some h := by
          have z := congrArg (fun m : List Nat => m[0]?) hd'
          simp only [List.getElem?_drop, Nat.add_zero, List.getElem?_cons_zero] at z
          exact z
        have hlt := (List.getElem?_eq_some_iff.mp eh2).1
        obtain ⟨p2, e2⟩ : ∃ p2, g[h]? = some p2 := ⟨_, List.getElem?_eq_getElem an2.lt⟩
        obtain ⟨y2, ey2, ry2⟩ := fd_at hxs e2
        refine ⟨_, rfl, rfl, _, rfl, iteDF (by intro z; cases z) ?_⟩
        refine ⟨_, rfl, .inl ⟨rfl, _, SqL.of eo⟩, _, rfl, o, _, _, rfl, rfl, eo, ?_, ?_⟩
        · have z := rz.len
          have z2 := congrArg List.length eqs
          rw [List.length_map] at z z2
          rw [List.length_take] at z2
          exact small1000 (by omega)
        · have s2 : Same H (upd H1 o (.lst (zs ++ [.ref b]))) := fun c u ec => by
            rw [upd_ne (ne_of_none ec no)]
            exact sm _ _ ec
          refine ⟨_, rfl, _, rfl, b, _, 0, _, rfl, rfl, SqT.of (s2 _ _ hb), atI_nat (j := 0) rfl, a, _, _, _, rfl, rfl, SqT.of (s2 _ _ ha), atI_nat ey2, ?_⟩
          refine ⟨y2, h, p2, zs ++ [.ref b], qs ++ [(h, r)], _, hlt, rfl, s2, upd_same, ?_, ?_, by rw [List.getElem?_cons_succ]; exact eh2, e2, ry2⟩
          · rw [List.take_add_one, eh2, List.map_append, eqs]
            rfl
          · rw [List.map_append]
            exact rz.snoc ry
    · rintro σ H1 ⟨y, here, p, zs, qs, y4, hil, rfl, sm, eo, eqs, rz, eh, ep, ry⟩
      have e : ((xs.length : Int)).toNat = g.length := by omega
      rw [e] at hil
      omega
/-! ### _law_rooms -/
def sp_rooms : Sp := fun vs H Q _ => ∃ (G : Hp) (a : Addr) (n : Nat), vs = [.ref a, .int (n : Int)] ∧ Same G H ∧ G a = none ∧ Src H a ∧ n ≤ 24 ∧
  ∀ G' H' u rs, Xt [a] G H G' H' → Src H' a → rs.length = n → RsOk rs → Rp G' u (rd rs) → Q u H'
theorem ok_law_rooms (T : Txt mg t1 t2) (c_law_one : Cal P w K mg base 2 "_law_one" sp_one) (F : FunT K "_law_rooms" s_law_rooms f fd) : FnOk P w K mg base CX0 3 f fd ["_law_source", "_law_many"] sp_rooms := by
  refine F.ok sc_law_rooms (fun vs H Q E h => ?_) (fun cdv A outer s H vs Q E hr h => ?_)
  · obtain ⟨G, a, n, rfl, _⟩ := h
    rfl
  · obtain ⟨G, a, n, rfl, sG, ga, sa, hn, q⟩ := h
    have hb := r62 (n := n) (by omega)
    refine ⟨_, (pss_one (ps_ret (pe_callTy call_tuple_of (by rfl) T.tuple (by decide +kernel) (pa_cons (pe_lc (own := [("_law_x", 2)]) (g := gName 2) (tt := tYes) (by rfl) sc_law_rooms.nd (pi_range1 (by rfl) T.range (pa_cons (pv 1) pa_nil)) (blkOk_by (own := [("_law_x", 2)]) (N := N_law_rooms) (sc := defScope s_law_rooms) (by decide +kernel)) (fun _ _ _ _ _ => (pg_name (i := 2) sc_law_rooms.nd rfl (Or.inl rfl))) (fun _ _ _ _ _ => pts_nil) (fun _ _ _ _ _ => (pe_c c_law_one hr (by decide) rfl (pa_cons (pv 0) (pa_cons (pe_lst (pa_cons pe_int (pa_cons pe_int (pa_cons pe_int (pa_cons pe_int (pa_cons pe_int (pa_cons pe_int (pa_cons pe_int (pa_cons pe_int pa_nil))))))))) pa_nil))))) pa_nil)))), ?_⟩
    refine ⟨_, rfl, _, rfl, hb.1, hb.2, fun D nD => lc_range (fun i H' => ∃ rs : List Nat, rs.length = i ∧ (∀ m ∈ rs, m ≤ 4) ∧ Xt [a] G H G H' ∧ Src H' a ∧ H' D = some (.lst (nts rs))) ⟨[], rfl, fun m h => absurd h List.not_mem_nil, (Xt.refl sG).newM nD, Src.ne (H' := H) sa (ne_src sa nD), upd_same⟩ ?_ ?_⟩
    · rintro i H1 hi ⟨rs, hrs, h4, X1, s1, eD⟩
      have nDa := ne_src sa nD
      refine ⟨rfl, _, rfl, (by show 8 ≤ sizeLine; decide), fun t nt => ?_⟩
      have nta := ne_src s1 nt
      have nDt : D ≠ t := ne_of_none eD nt
      refine ⟨a, t, nts [1, 1, 2, 1, 0, 2, 3, 4], rfl, upd_same, by simp, by simp, nta, Src.ne (H' := H) s1 nta, fun j x b m ej so => ?_⟩
      obtain ⟨c, ec, rfl⟩ := map_at ej
      have c4 : c ≤ 4 := by
        have z := List.mem_of_getElem? ec
        simp only [List.mem_cons, List.not_mem_nil, or_false] at z
        omega
      refine ⟨_, by rw [upd_ne nDa, upd_ne nDt]; exact eD, ?_, rs ++ [c], ?_, fun m hm => ?_, ((X1.newM nt).mut ga (.inl (List.mem_singleton.mpr rfl))).mut (sG.free nD) (.inr nD), Src.ne (H' := H) (Src.upd so) nDa, ?_⟩
      · rw [List.length_map]
        have : i < n := by simpa using hi
        exact small1000 (by omega)
      · rw [List.length_append, hrs]
        rfl
      · rcases List.mem_append.mp hm with hm | hm
        · exact h4 m hm
        · rw [List.mem_singleton.mp hm]
          exact c4
      · rw [upd_same, nts_snoc]
    · rintro H1 ⟨rs, hrs, h4, X1, s1, eD⟩
      rw [Int.toNat_natCast] at hrs
      refine ⟨D, _, rfl, .inl ⟨SqL.of eD, fun p np => ?_⟩⟩
      exact q _ _ _ rs (X1.new np) (Src.ne (H' := H) s1 (ne_src s1 np)) hrs ⟨by omega, fun i m e => h4 m (List.mem_of_getElem? e)⟩ (rd_mk upd_same)
/-! ### _law_beneath -/
def sp_beneath : Sp := fun vs H Q _ => ∃ (v : V) (g : Forest) (x : Nat), vs = [v, .int (x : Int)] ∧ Rp H v (fod g) ∧ g.length ≤ 24 ∧ (∀ y, y < g.length → ∃ l, Anc g y l) ∧
  ∀ H' p ys, Same H H' → H p = none → H' p = some (.lst (nts ys)) → (∀ y, y < g.length → y ∉ ys → y ≠ x ∧ ∃ l, Anc g y l ∧ x ∉ l) → Q (.ref p) H'
theorem ok_law_beneath (T : Txt mg t1 t2) (c_law_climb : Cal P w K mg base 1 "_law_climb" sp_climb) (F : FunT K "_law_beneath" s_law_beneath f fd) : FnOk P w K mg base CX0 2 f fd ["_law_forest", "_law_x"] sp_beneath := by
  refine F.ok sc_law_beneath (fun vs H Q E h => ?_) (fun cdv A outer s H vs Q E hr h => ?_)
  · obtain ⟨v, g, x, rfl, _⟩ := h
    rfl
  · obtain ⟨v, g, x, rfl, hv, hl, an, q⟩ := h
    obtain ⟨a, xs, rfl, ha, hxs, hlen⟩ := fd_inv hv
    have hb := r62 (n := xs.length) (by omega)
    refine ⟨_, (pss_one (ps_ret (pe_lc (own := [("_law_y", 2)]) (g := gName 2) (by rfl) sc_law_beneath.nd (pi_range1 (by rfl) T.range (pa_cons (pe_callB call_len_seq (by rfl) T.len (by decide +kernel) (pa_cons (pv 0) pa_nil)) pa_nil)) (blkOk_by (own := [("_law_y", 2)]) (N := N_law_beneath) (sc := defScope s_law_beneath) (by decide +kernel)) (fun _ _ _ _ _ => (pg_name (i := 2) sc_law_beneath.nd rfl (Or.inl rfl))) (fun _ _ _ _ _ => (pts_one (PW.pt (pw_or (pt_cmpR op_eq (pv 2) (pv 1) (nomark _)) (pw_or1 (pt_cmpR (r := rIn K false) op_in_seq (pv 1) (pe_lc (wi := iList K _) (own := [("_law_place", 3)]) (g := gName 3) (tt := tYes) (by rfl) sc_law_beneath.nd (pi_list (pe_c c_law_climb hr (by decide) rfl (pa_cons (pv 0) (pa_cons (pv 2) pa_nil)))) (blkOk_by (own := [("_law_place", 3)]) (N := N_law_beneath) (sc := cScope s_law_beneath) (by decide +kernel)) (fun _ _ _ _ _ => (pg_name (i := 3) sc_law_beneath.nd rfl (Or.inl rfl))) (fun _ _ _ _ _ => pts_nil) (fun _ _ _ _ _ => (pe_ix (r := rIxT K) ix_tup (pv 3) pe_int (fun _ _ => rfl)))) (by rfl))))))) (fun _ _ _ _ _ => (pv 2))))), ?_⟩
    refine ⟨_, rfl, a, _, rfl, .inr (SqT.of ha), _, rfl, hb.1, hb.2, fun D nD => lc_range (fun i H' => ∃ ys : List Nat, Same H H' ∧ H' D = some (.lst (nts ys)) ∧ ys.length ≤ i ∧ ∀ y, y < i → y ∉ ys → y ≠ x ∧ ∃ l, Anc g y l ∧ x ∉ l) ⟨[], same_new nD, upd_same, Nat.le_refl _, fun y h => absurd h (Nat.not_lt_zero _)⟩ ?_ ?_⟩
    · rintro i H1 hi ⟨ys, sm, eD, hly, hy⟩
      have hi' : i < g.length := by rw [← hlen]; simpa using hi
      rw [Int.zero_add]
      have take : ∀ H2, Same H1 H2 → ∃ acc, H2 D = some (.lst acc) ∧ acc.length < sizeLine ∧ (∃ ys' : List Nat, Same H (upd H2 D (.lst (acc ++ [.int (i : Int)]))) ∧ (upd H2 D (.lst (acc ++ [.int (i : Int)]))) D = some (.lst (nts ys')) ∧ ys'.length ≤ i + 1 ∧ ∀ y, y < i + 1 → y ∉ ys' → y ≠ x ∧ ∃ l, Anc g y l ∧ x ∉ l) := fun H2 s2 => by
        refine ⟨_, s2 _ _ eD, by rw [List.length_map]; exact small1000 (by omega), ys ++ [i], fun c u ec => ?_, ?_, ?_, fun y h1 h2 => ?_⟩
        · rw [upd_ne (ne_of_none ec nD)]
          exact s2 _ _ (sm _ _ ec)
        · rw [upd_same, nts_snoc]
        · rw [List.length_append, List.length_singleton]
          omega
        · rw [List.mem_append, List.mem_singleton, not_or] at h2
          exact hy y (by omega) h2.1
      refine ⟨rfl, _, rfl, _, rfl, rfl, _, rfl, ?_⟩
      by_cases hx : i = x
      · refine iteD (by rw [hx]) ?_
        refine iteT ?_
        exact ⟨_, rfl, take H1 (Same.refl _)⟩
      · refine iteDF (by intro z; have := V.int.inj z; omega) ?_
        obtain ⟨l, al⟩ := an i hi'
        refine ⟨_, rfl, _, rfl, _, rfl, .ref a, g, i, l, rfl, hv.mono sm, hl, al, fun H2 p zs qs s2 np ep eqs rz => ⟨p, rfl, ⟨_, SqL.of ep⟩, fun D2 nD2 => ?_⟩⟩
        have nDD : D ≠ D2 := ne_of_none (s2 _ _ eD) nD2
        refine lst_loop (xs := zs) (fun j H' => Same H2 H' ∧ H' D2 = some (.lst (nts (l.take j)))) ⟨same_new nD2, upd_same⟩ (fun j H' h => SqL.of (h.1 _ _ ep)) ?_ ?_
        · rintro j z H3 ez ⟨s3, eD2⟩
          obtain ⟨d, ed, rz2⟩ := rz.getV ez
          obtain ⟨qq, eq, rfl⟩ := map_at ed
          obtain ⟨h, r⟩ := qq
          obtain ⟨b, rfl, hb⟩ := pd_some rz2
          have ej : l[j]? = some h := by rw [← eqs, List.getElem?_map, eq]; rfl
          have l24 := al.len
          have hj := (List.getElem?_eq_some_iff.mp ej).1
          refine ⟨rfl, _, rfl, b, _, 0, _, rfl, rfl, SqT.of (s3 _ _ (s2 _ _ hb)), atI_nat (j := 0) rfl, _, eD2, ?_, fun c u e => ?_, ?_⟩
          · rw [List.length_map, List.length_take]
            exact small1000 (by omega)
          · rw [upd_ne (ne_of_none e nD2)]
            exact s3 _ _ e
          · rw [upd_same, List.take_add_one, ej]
            exact congrArg (fun z => some (HO.lst z)) (nts_snoc _ _).symm
        · rintro H3 ⟨s3, eD2⟩
          have el : l.take zs.length = l := List.take_of_length_le (by rw [rz.len, List.length_map, ← eqs, List.length_map]; exact Nat.le_refl _)
          rw [el] at eD2
          refine ⟨D2, _, rfl, .inl (SqL.of eD2), rfl, flat_ints l, _, rfl, ?_⟩
          by_cases hm : x ∈ l
          · have e1 : inV (.int (x : Int)) (nts l) = true := by
              unfold inV
              rw [List.any_eq_true]
              refine ⟨V.int (x : Int), List.mem_map.mpr ⟨x, hm, rfl⟩, ?_⟩
              show ((x : Int) == (x : Int)) = true
              simp
            refine ifT_of e1 ?_
            exact ⟨_, rfl, take H3 (s2.trans s3)⟩
          · refine ifF_of (inV_not hm) ?_
            refine ⟨ys, (sm.trans s2).trans s3, s3 _ _ (s2 _ _ eD), by omega, fun y h1 h2 => ?_⟩
            by_cases e : y = i
            · subst e
              exact ⟨hx, l, al, hm⟩
            · exact hy y (by omega) h2
    · rintro H1 ⟨ys, sm, eD, hly, hy⟩
      have e : ((xs.length : Int)).toNat = g.length := by omega
      rw [e] at hy
      exact q _ _ ys sm nD eD hy
end
end KJ
set_option maxHeartbeats 4000000
namespace KJ
open PySem PySem.Spec PyProof.Rows L2 TL
theorem nts_rp {H : Hp} : ∀ ns : List Nat, RpA H (nts ns) (ns.map fun n : Nat => PyData.int (n : Int))
  | [] => .nil
  | n :: r => .cons (.int _) (nts_rp r)
theorem nts_lo : ∀ ns : List Nat, loA 0 (ns.map fun n : Nat => PyData.int (n : Int))
  | [] => .nil
  | _ :: r => .cons .int (nts_lo r)
theorem ne_nil {K : PySem.W.Frag} {H : Hp} {Q : VK} {D z : Addr} {xs : List V} {ds : List PyData} {k : Nat} (e : H D = some (.lst xs)) (r : RpA H xs ds) (ez : H z = some (.lst [])) (l : loA k ds) (hk : k + 1 ≤ 64) (q : Q (.bl (!ds.isEmpty)) H) : rNeD K (.ref D) (.ref z) H Q := by
  refine ⟨.list ds, .list [], Rp.dp (.lst e r), Rp.dp (.lst ez .nil), (lo.lst l).shaped hk, by rfl, ?_⟩
  cases ds with
  | nil => exact q
  | cons d ds => exact q
theorem Anc.holder {f : Forest} {x : Nat} {l : List Nat} (a : Anc f x l) : ∀ y ∈ l, ∃ z r : Nat, f[z]? = some (some (y, r)) := by
  induction a with
  | root h => intro y hy; exact absurd hy List.not_mem_nil
  | @step x h r l e b ih =>
    intro y hy
    rcases List.mem_cons.mp hy with rfl | hy
    · exact ⟨x, r, e⟩
    · exact ih y hy
def HoldIn (g : Forest) (s : List Nat) : Prop := ∀ (y h r : Nat), g[y]? = some (some (h, r)) → h ∈ s
theorem nodup_take {ms : List Nat} {i x : Nat} (nd : ms.Nodup) (e : ms[i]? = some x) : x ∉ ms.take i := fun h => by
  have hi := (List.getElem?_eq_some_iff.mp e).1
  rw [← List.take_append_drop i ms] at nd
  have z := (List.nodup_append.mp nd).2.2 x h x (by
    rw [List.mem_iff_getElem?]
    exact ⟨0, by rw [List.getElem?_drop, Nat.add_zero]; exact e⟩)
  exact z rfl
theorem cut_take {xs : List V} {x : Nat} (h : x ≤ xs.length) : cutV xs none (some (x : Int)) = xs.take x := by
  unfold cutV
  rw [HT.sIx_none, HT.sIx_nat, List.drop_zero, Nat.sub_zero, Nat.min_eq_left h]
theorem nts_take (l : List Nat) (i : Nat) : (nts l).take i = nts (l.take i) := List.map_take.symm
theorem nts_range (i : Nat) : nts (List.range (i + 1)) = nts (List.range i) ++ [V.int (i : Int)] := by rw [List.range_succ, nts_snoc]
theorem ixN_nat {n x : Nat} (h : x < n) : ixN n (x : Int) = some x := by unfold ixN; rw [if_pos (by omega), if_pos (by omega), Int.toNat_natCast]
theorem rd_get {rs : List Nat} {i : Nat} (h : i < rs.length) : (nts rs)[i]? = some (.int ((rs[i] : Nat) : Int)) := rd_at (List.getElem?_eq_getElem h)
section
variable {P : Program} {w : World} {K : PySem.W.Frag} {mg : Str → Option Value} {base : Heap} {t1 t2 : Tok} {f : Addr} {fd : FuncData}
/-! ### _law_grown -/
def sp_grown : Sp := fun vs H Q _ => ∃ (G : Hp) (a : Addr) (v : V) (rs : List Nat), vs = [.ref a, v] ∧ Same G H ∧ G a = none ∧ Src H a ∧ Rp G v (rd rs) ∧ RsOk rs ∧
  ∀ G' H' u g, Xt [a] G H G' H' → Src H' a → Good rs g → Rp G' u (fod g) → Q u H'
theorem ok_law_grown (T : Txt mg t1 t2) (c_law_take : Cal P w K mg base 1 "_law_take" sp_take) (c_law_one : Cal P w K mg base 2 "_law_one" sp_one) (c_law_mixed : Cal P w K mg base 2 "_law_mixed" sp_mixed) (F : FunT K "_law_grown" s_law_grown f fd) : FnOk P w K mg base CX0 3 f fd ["_law_source", "_law_rooms_here"] sp_grown := by
  refine F.ok sc_law_grown (fun vs H Q E h => ?_) (fun cdv A outer s H vs Q E hr h => ?_)
  · obtain ⟨G, a, v, rs, rfl, _⟩ := h
    rfl
  · have hu64 := hu64_of hr
    obtain ⟨G, a, v, rs, rfl, sG, ga, sa, hv, ok, q⟩ := h
    obtain ⟨va, rfl, gV⟩ := rd_inv hv
    have hva := sG _ _ gV
    have l24 := ok.len
    have hb := r62 (n := (nts rs).length) (by rw [List.length_map]; omega)
    have aM : a ∈ [a] := List.mem_singleton.mpr rfl
    obtain ⟨b0, m0, hA, so0⟩ := id sa
    have nva : va ≠ a := by
      rintro rfl
      rw [gV] at ga
      cases ga
    refine ⟨_, (pss_cons (ps_set (i := 2) sc_law_grown.nd rfl (Or.inl rfl) (pe_c c_law_mixed hr (by decide) rfl (pa_cons (pv 0) (pa_cons (pe_lc (own := [("_law_x", 7)]) (g := gName 7) (tt := tYes) (by rfl) sc_law_grown.nd (pi_range1 (by rfl) T.range (pa_cons (pe_callB call_len_seq (by rfl) T.len (by decide +kernel) (pa_cons (pv 1) pa_nil)) pa_nil)) (blkOk_by (own := [("_law_x", 7)]) (N := N_law_grown) (sc := defScope s_law_grown) (by decide +kernel)) (fun _ _ _ _ _ => (pg_name (i := 7) sc_law_grown.nd rfl (Or.inl rfl))) (fun _ _ _ _ _ => pts_nil) (fun _ _ _ _ _ => (pv 7))) pa_nil))))
      (pss_cons (ps_setLc (i := 3) (own := [("_law_x", 7)]) (g := gName 7) (tt := tYes) (by rfl) sc_law_grown.nd rfl rfl (sw_true rfl rfl rfl (by decide +kernel)) (pi_range1 (by rfl) T.range (pa_cons (pe_callB call_len_seq (by rfl) T.len (by decide +kernel) (pa_cons (pv 1) pa_nil)) pa_nil)) (blkOk_by (own := [("_law_x", 7)]) (N := N_law_grown) (sc := defScope s_law_grown) (by decide +kernel)) (fun _ _ _ _ _ => (pg_name (i := 7) sc_law_grown.nd rfl (Or.inl rfl))) (fun _ _ _ _ _ => pts_nil) (fun _ _ _ _ _ => pe_non))
      (pss_cons (ps_for PassesOwn.never rfl (pi_range1 (by rfl) T.range (pa_cons (pe_callB call_len_seq (by rfl) T.len (by decide +kernel) (pa_cons (pv 2) pa_nil)) pa_nil)) (pg_name (i := 4) sc_law_grown.nd rfl (Or.inl rfl)) (pss_cons (ps_setLc (i := 5) (own := [("_law_y", 8)]) (g := gName 8) (by rfl) sc_law_grown.nd rfl rfl (sw_true rfl rfl rfl (by decide +kernel)) (pi_list (pe_slice (r := rSlL K) sl_list (pv 2) po_none (po_some (pv 4)))) (blkOk_by (own := [("_law_y", 8)]) (N := N_law_grown) (sc := defScope s_law_grown) (by decide +kernel)) (fun _ _ _ _ _ => (pg_name (i := 8) sc_law_grown.nd rfl (Or.inl rfl))) (fun _ _ _ _ _ => (pts_one (pt_cmpR op_gt (pe_ix (r := rIxT K) ix_tup (pv 1) (pv 8) (fun _ _ => rfl)) pe_int (nomark _)))) (fun _ _ _ _ _ => (pv 8)))
      (pss_one (ps_if (PW.pt (pw_and (pt_cmpR (r := rNeD K) (op_neD hu64) (pv 5) (pe_lst pa_nil) (nomark _)) (pw_and1 (pt_cmpR op_gt (pe_c c_law_take hr (by decide) rfl (pa_cons (pv 0) (pa_cons pe_int pa_nil))) pe_int (nomark _))))) (pss_cons (ps_set (i := 6) sc_law_grown.nd rfl (Or.inl rfl) (pe_c c_law_one hr (by decide) rfl (pa_cons (pv 0) (pa_cons (pv 5) pa_nil))))
      (pss_one (ps_asg (pe_tup (pa_cons (pv 6) (pa_cons (pe_c c_law_take hr (by decide) rfl (pa_cons (pv 0) (pa_cons (pe_ix (r := rIxT K) ix_tup (pv 1) (pv 6) (fun _ _ => rfl)) pa_nil))) pa_nil))) (pg_sub (pv 3) (pe_ix (r := rIxL K) ix_list (pv 2) (pv 4) (fun _ _ => rfl)) set_list)))) pss_nil))))
      (pss_one (ps_ret (pe_callTy call_tuple_of (by rfl) T.tuple (by decide +kernel) (pa_cons (pv 3) pa_nil))))))), ?_⟩
    refine ⟨_, rfl, _, rfl, va, _, rfl, .inr (SqT.of hva), _, rfl, hb.1, hb.2, fun D0 nD0 => lc_range (fun i H' => Same H H' ∧ H' D0 = some (.lst (nts (List.range i)))) ⟨same_new nD0, upd_same⟩ ?_ ?_⟩
    · rintro i H1 hi ⟨sm, eD⟩
      refine ⟨rfl, _, rfl, _, eD, ?_, fun c u e => ?_, ?_⟩
      · rw [List.length_map, List.length_range]
        have : i < rs.length := by simpa using hi
        exact small1000 (by omega)
      · rw [upd_ne (ne_of_none e nD0)]
        exact sm _ _ e
      · rw [upd_same, nts_range, Int.zero_add]
    rintro H1 ⟨sm1, eD0⟩
    have en : (((nts rs).length : Nat) : Int).toNat = rs.length := by rw [List.length_map]; omega
    rw [en] at eD0
    refine ⟨G, a, D0, List.range rs.length, rfl, sG.trans sm1, ga, sa.same sm1, eD0, ne_src sa nD0, by rw [List.length_range]; exact l24, fun H2 p ms X2 s2 pm np ep => ?_⟩
    have X2' : Xt [a] G H G H2 := (Xt.same (M := [a]) sG sm1).trans X2
    have nd : ms.Nodup := pm.nodup_iff.mpr List.nodup_range
    have lm : ms.length = rs.length := by rw [pm.length_eq, List.length_range]
    have mlt : ∀ x ∈ ms, x < rs.length := fun x hx => List.mem_range.mp (pm.mem_iff.mp hx)
    have np0 : H p = none := sm1.free np
    have npa : p ≠ a := ne_src sa np0
    have hva2 : H2 va = some (.tup (nts rs)) := X2'.hh _ _ (by simpa using nva) hva
    -- places_here
    refine ⟨_, rfl, va, _, rfl, .inr (SqT.of hva2), _, rfl, hb.1, hb.2, fun D2 nD2 => lc_range (fun i H' => Same H2 H' ∧ H' D2 = some (.lst (List.replicate i .non))) ⟨same_new nD2, upd_same⟩ ?_ ?_⟩
    · rintro i H3 hi ⟨sm, eD⟩
      refine ⟨rfl, _, eD, ?_, fun c u e => ?_, ?_⟩
      · rw [List.length_replicate]
        have : i < rs.length := by simpa using hi
        exact small1000 (by omega)
      · rw [upd_ne (ne_of_none e nD2)]
        exact sm _ _ e
      · rw [upd_same, List.replicate_succ']
    rintro H3 ⟨sm3, eD2⟩
    rw [en] at eD2
    have X3 : Xt [a] G H G H3 := X2'.trans (Xt.same X2'.gh sm3)
    have nD20 : H D2 = none := by
      cases z : H D2 with
      | none => rfl
      | some o =>
        obtain ⟨o', e'⟩ := X2'.lv _ _ z
        rw [e'] at nD2
        cases nD2
    have nD2a : D2 ≠ a := ne_src sa nD20
    have nD2p : D2 ≠ p := by
      rintro rfl
      rw [ep] at nD2
      cases nD2
    have hb3 := r62 (n := (nts ms).length) (by rw [List.length_map]; omega)
    have r0 : RpA G (List.replicate rs.length V.non) ((List.replicate rs.length (none : Place)).map pd) := by
      rw [List.map_replicate]
      generalize rs.length = n
      induction n with
      | zero => exact .nil
      | succ n ih => exact .cons .non ih
    refine ⟨_, rfl, p, _, rfl, .inl (SqL.of (sm3 _ _ ep)), _, rfl, hb3.1, hb3.2, for_range (fun i σ H' => ∃ (G' : Hp) (acc : List V) (g : Forest) (y4 y5 y6 : Option V), σ = [some (.ref a), some (.ref va), some (.ref p), some (.ref D2), y4, y5, y6, none, none] ∧ Xt [a] G H G' H' ∧ Src H' a ∧ H' p = some (.lst (nts ms)) ∧ H' D2 = some (.lst acc) ∧ G' D2 = none ∧
      RpA G' acc (g.map pd) ∧ Good rs g ∧ HoldIn g (ms.take i)) ⟨G, _, _, none, none, none, rfl, X3, s2.same sm3, sm3 _ _ ep, eD2, sG.free nD20, r0, Good.floor rs, fun y h r e => ?_⟩ ?_ ?_⟩
    · rw [List.getElem?_replicate] at e
      split at e
      · cases e
      · cases e
    · rintro i σ H4 hi ⟨G4, acc, g, y4, y5, y6, rfl, X4, s4, ep4, eD4, gD4, racc, gd, hold⟩
      have hi' : i < ms.length := by
        rw [List.length_map] at hi
        simpa using hi
      rw [Int.zero_add]
      have hva4 : H4 va = some (.tup (nts rs)) := X4.hh _ _ (by simpa using nva) hva
      -- some
      refine ⟨_, rfl, _, rfl, (i : Int), rfl, p, _, rfl, SqL.of ep4, fun c nc => ?_⟩
      rw [cut_take (by rw [List.length_map]; omega), nts_take]
      have X5 := X4.newM (o := .lst (nts (ms.take i))) nc
      have sm5 := same_new (o := .lst (nts (ms.take i))) nc
      have ec : (upd H4 c (.lst (nts (ms.take i)))) c = some (.lst (nts (ms.take i))) := upd_same
      revert X5 sm5 ec
      generalize upd H4 c (.lst (nts (ms.take i))) = H5
      intro X5 sm5 ec
      refine ⟨c, rfl, ⟨_, SqL.of ec⟩, fun D nD => ?_⟩
      refine lst_loop (xs := nts (ms.take i)) (fun j H' => ∃ ys : List Nat, Same H5 H' ∧ H' D = some (.lst (nts ys)) ∧ ys.length ≤ j ∧ ∀ y ∈ ys, y ∈ ms.take i ∧ ∃ m, rs[y]? = some m ∧ 0 < m) ⟨[], same_new nD, upd_same, Nat.le_refl _, fun y h => absurd h List.not_mem_nil⟩ (fun j H' h => SqL.of (h.choose_spec.1 _ _ ec)) ?_ ?_
      · rintro j x H6 ex ⟨ys, sm, eD, hly, hys⟩
        obtain ⟨y, ey, rfl⟩ := map_at ex
        have hj := (List.getElem?_eq_some_iff.mp ey).1
        rw [List.length_take] at hj
        have ym := List.mem_of_getElem? ey
        have ylt := mlt y (List.mem_of_mem_take ym)
        refine ⟨rfl, _, rfl, _, rfl, va, _, _, _, rfl, rfl, SqT.of (sm _ _ (sm5 _ _ hva4)), atI_nat (rd_get ylt), _, _, rfl, rfl, _, rfl, ?_⟩
        by_cases h0 : 0 < rs[y]
        · refine iteD (by omega) ?_
          refine ⟨_, rfl, _, eD, by rw [List.length_map]; exact small1000 (by omega), ys ++ [y], fun b o e => ?_, ?_, ?_, fun z hz => ?_⟩
          · rw [upd_ne (ne_of_none e nD)]
            exact sm _ _ e
          · rw [upd_same, nts_snoc]
          · rw [List.length_append, List.length_singleton]
            omega
          · rcases List.mem_append.mp hz with hz | hz
            · exact hys z hz
            · rw [List.mem_singleton.mp hz]
              exact ⟨ym, _, List.getElem?_eq_getElem ylt, h0⟩
        · refine iteDF (by omega) ?_
          exact ⟨ys, sm, eD, by omega, hys⟩
      rintro H6 ⟨ys, sm6, eD6, hly, hys⟩
      rw [List.length_map, List.length_take] at hly
      have X6 : Xt [a] G H G4 H6 := X5.trans (Xt.same X5.gh sm6)
      have s46 : Same H4 H6 := sm5.trans sm6
      have stay : ∀ {σ : L2.St} (H' : Hp) (y4 y5 y6 : Option V), Xt [a] G H G4 H' → Src H' a → H' p = some (.lst (nts ms)) → H' D2 = some (.lst acc) → σ = [some (.ref a), some (.ref va), some (.ref p), some (.ref D2), y4, y5, y6, none, none] →
        ∃ (G' : Hp) (acc : List V) (g : Forest) (y4 y5 y6 : Option V), σ = [some (.ref a), some (.ref va), some (.ref p), some (.ref D2), y4, y5, y6, none, none] ∧ Xt [a] G H G' H' ∧ Src H' a ∧ H' p = some (.lst (nts ms)) ∧ H' D2 = some (.lst acc) ∧ G' D2 = none ∧
        RpA G' acc (g.map pd) ∧ Good rs g ∧ HoldIn g (ms.take (i + 1)) := fun H' y4 y5 y6 X s ep eD e => by
          refine ⟨G4, acc, g, y4, y5, y6, e, X, s, ep, eD, gD4, racc, gd, fun y h r e => ?_⟩
          rw [List.take_add_one]
          exact List.mem_append_left _ (hold y h r e)
      refine ⟨_, rfl, Nat.zero_le _, fun z nz => ?_⟩
      have sm7 := same_new (o := .lst []) nz
      have X7 := X6.newM (o := .lst []) nz
      have ez : (upd H6 z (.lst [])) z = some (.lst []) := upd_same
      revert X7 sm7 ez
      generalize upd H6 z (.lst []) = H7
      intro sm7 X7 ez
      have s47 := s46.trans sm7
      refine ne_nil (sm7 _ _ eD6) (nts_rp ys) ez (nts_lo ys) (by decide) ⟨_, rfl, ?_⟩
      cases ys with
      | nil =>
        refine iteF ?_
        refine iteF ?_
        exact stay _ _ _ _ X7 (s4.same s47) (s47 _ _ ep4) (s47 _ _ eD4) rfl
      | cons y0 yr =>
        refine iteT ?_
        refine ⟨_, rfl, a, 4, rfl, by decide, by decide, s4.same s47, fun n b m hn so => ⟨_, _, rfl, rfl, _, rfl, ?_⟩⟩
        have ga4 : G4 a = none := X4.nn _ _ hA ga
        have X8 := X7.mut (o := .lst [.int b, .int m]) ga4 (.inl aM)
        have s48 : ∀ {c : Addr} {o : HO}, c ≠ a → H4 c = some o → (upd H7 a (.lst [.int b, .int m])) c = some o := fun n e => by rw [upd_ne n]; exact s47 _ _ e
        have e78 : (upd H7 a (.lst [.int b, .int m])) D = some (.lst (nts (y0 :: yr))) := by
          rw [upd_ne (ne_src (s4.same sm5) nD)]
          exact sm7 _ _ eD6
        have s8 : Src (upd H7 a (.lst [.int b, .int m])) a := Src.upd so
        revert X8 s48 e78 s8
        generalize upd H7 a (.lst [.int b, .int m]) = H8
        intro X8 s48 e78 s8
        by_cases h4 : 0 < n
        · refine iteD (by omega) ?_
          have nDa : D ≠ a := ne_src (s4.same sm5) nD
          refine ⟨_, rfl, _, rfl, a, D, nts (y0 :: yr), rfl, e78, by simp, by rw [List.length_map]; omega, nDa, s8, fun j x b m ej so => ?_⟩
          obtain ⟨h, eh, rfl⟩ := map_at ej
          obtain ⟨hin, mh, emh, m0'⟩ := hys h (List.mem_of_getElem? eh)
          have X9 := X8.mut (o := .lst [.int b, .int m]) ga4 (.inl aM)
          have s49 : ∀ {c : Addr} {o : HO}, c ≠ a → H4 c = some o → (upd H8 a (.lst [.int b, .int m])) c = some o := fun n e => by rw [upd_ne n]; exact s48 n e
          have s9 : Src (upd H8 a (.lst [.int b, .int m])) a := Src.upd so
          revert X9 s49 s9
          generalize upd H8 a (.lst [.int b, .int m]) = H9
          intro X9 s49 s9
          have m4 := ok.le4 _ _ emh
          refine ⟨_, rfl, _, rfl, _, rfl, _, rfl, va, _, _, _, rfl, rfl, SqT.of (s49 nva hva4), atI_nat (rd_at emh), a, mh, rfl, m0', by omega, s9, fun r b m hr so => ⟨(by show 2 ≤ sizeLine; decide), fun t nt => ?_⟩⟩
          have X10 := X9.mut (o := .lst [.int b, .int m]) ga4 (.inl aM)
          have s410 : ∀ {c : Addr} {o : HO}, c ≠ a → H4 c = some o → (upd H9 a (.lst [.int b, .int m])) c = some o := fun n e => by rw [upd_ne n]; exact s49 n e
          have s10 : Src (upd H9 a (.lst [.int b, .int m])) a := Src.upd so
          revert X10 s410 s10 nt
          generalize upd H9 a (.lst [.int b, .int m]) = H10
          intro nt X10 s410 s10
          have X11 := X10.new (o := .tup [.int (h : Int), .int (r : Int)]) nt
          have gt : G4 t = none := X10.gh.free nt
          have sg := same_new (o := .tup [.int (h : Int), .int (r : Int)]) gt
          have s411 : ∀ {c : Addr} {o : HO}, c ≠ a → H4 c = some o → (upd H10 t (.tup [.int (h : Int), .int (r : Int)])) c = some o := fun n e => same_new nt _ _ (s410 n e)
          have ntD2 : D2 ≠ t := ne_of_none (s410 nD2a eD4) nt
          have em := List.getElem?_eq_getElem hi'
          have xlt := mlt _ (List.getElem_mem hi')
          have lacc : acc.length = rs.length := by rw [racc.len, List.length_map, gd.len]
          refine ⟨_, rfl, _, rfl, _, rfl, p, _, _, _, rfl, rfl, SqL.of (s411 npa ep4), atI_nat (rd_get hi'), D2, acc, ((ms[i] : Nat) : Int), ms[i], rfl, rfl, s411 nD2a eD4, ixN_nat (by omega), ?_⟩
          have hx : h ≠ ms[i] := fun e => nodup_take nd em (e ▸ hin)
          have gd' : Good rs (g.set ms[i] (some (h, r))) := by
            obtain ⟨l, al⟩ := gd.anc h (by rw [gd.len]; exact mlt h (List.mem_of_mem_take hin))
            refine gd.move (by rw [gd.len]; exact xlt) ⟨hx, mh, emh, hr⟩ ⟨hx, l, al, fun hl => ?_⟩
            obtain ⟨z, r', ez⟩ := al.holder _ hl
            exact nodup_take nd em (hold z _ r' ez)
          refine ⟨_, acc.set ms[i] (.ref t), g.set ms[i] (some (h, r)), _, _, _, rfl, X11.mut (by rw [upd_ne ntD2]; exact gD4) (.inr nD20), ?_, ?_, upd_same, by rw [upd_ne ntD2]; exact gD4, ?_, gd', ?_⟩
          · exact Src.ne (H' := H) (Src.ne (H' := H) s10 (ne_src s10 nt)) nD2a
          · rw [upd_ne (Ne.symm nD2p)]
            exact s411 npa ep4
          · rw [List.map_set]
            exact (racc.mono sg).set _ (.tup upd_same (.cons (.int _) (.cons (.int _) .nil)))
          · intro y h' r' e
            rw [List.take_add_one]
            by_cases hy : y = ms[i]
            · subst hy
              rw [List.getElem?_set_self (by rw [gd.len]; exact xlt)] at e
              cases e
              exact List.mem_append_left _ hin
            · rw [List.getElem?_set_ne (Ne.symm hy)] at e
              exact List.mem_append_left _ (hold y h' r' e)
        · refine iteDF (by omega) ?_
          exact stay _ _ _ _ X8 s8 (s48 npa ep4) (s48 nD2a eD4) rfl
    · rintro σ H4 ⟨G4, acc, g, y4, y5, y6, rfl, X4, s4, ep4, eD4, gD4, racc, gd, hold⟩
      refine ⟨_, rfl, D2, _, rfl, .inl ⟨SqL.of eD4, fun t nt => ?_⟩⟩
      exact q _ _ _ g (X4.new nt) (Src.ne (H' := H) s4 (ne_src s4 nt)) gd (.tup upd_same (racc.mono (same_new (X4.gh.free nt))))
end
end KJ
set_option maxHeartbeats 4000000
namespace KJ
open PySem PySem.Spec PyProof.Rows L2 TL
theorem inV_yes {x : Nat} {l : List Nat} (h : x ∈ l) : inV (.int (x : Int)) (nts l) = true := by
  unfold inV
  rw [List.any_eq_true]
  refine ⟨V.int (x : Int), List.mem_map.mpr ⟨x, h, rfl⟩, ?_⟩
  show ((x : Int) == (x : Int)) = true
  simp
theorem pds_lo (ps : List Place) : loA 1 (ps.map pd) := .all fun d h => by
  obtain ⟨p, _, rfl⟩ := List.mem_map.mp h
  exact lo.pd p
section
variable {P : Program} {w : World} {K : PySem.W.Frag} {mg : Str → Option Value} {base : Heap} {t1 t2 : Tok} {f : Addr} {fd : FuncData}
/-! ### _law_places -/
def sp_places : Sp := fun vs H Q _ => ∃ (G : Hp) (vr v : V) (rs : List Nat) (g : Forest) (x : Nat), vs = [vr, v, .int (x : Int)] ∧ Same G H ∧ Rp G vr (rd rs) ∧ Rp G v (fod g) ∧ RsOk rs ∧ Good rs g ∧ x < g.length ∧
  ∀ G' H' D zs (ps : List Place), Xt [] G H G' H' → H D = none → H' D = some (.lst zs) → RpA G' zs (ps.map pd) → ps.length ≤ 100 → (∀ p ∈ ps, okP rs x p ∧ mayGo g x p ∧ g[x]? ≠ some p) → Q (.ref D) H'
theorem ok_law_places (T : Txt mg t1 t2) (c_law_beneath : Cal P w K mg base 2 "_law_beneath" sp_beneath) (F : FunT K "_law_places" s_law_places f fd) : FnOk P w K mg base CX0 3 f fd ["_law_rooms_here", "_law_forest", "_law_x"] sp_places := by
  refine F.ok sc_law_places (fun vs H Q E h => ?_) (fun cdv A outer s H vs Q E hr h => ?_)
  · obtain ⟨G, vr, v, rs, g, x, rfl, _⟩ := h
    rfl
  · have hu64 := hu64_of hr
    obtain ⟨G, vr, v, rs, g, x, rfl, sG, hvr, hv, ok, gd, hx, q⟩ := h
    obtain ⟨va, rfl, gV⟩ := rd_inv hvr
    have hva := sG _ _ gV
    have l24 := ok.len
    have hb := r62 (n := (nts rs).length) (by rw [List.length_map]; omega)
    refine ⟨_, (pss_cons (ps_par (i := 3) (j := 4) (by rfl) sc_law_places.nd rfl rfl (by decide) rfl rfl (pa_cons (pe_c c_law_beneath hr (by decide) rfl (pa_cons (pv 1) (pa_cons (pv 2) pa_nil))) (pa_cons (pe_lst (pa_cons pe_non pa_nil)) pa_nil)) (by rfl))
      (pss_cons (ps_for PassesOwn.never rfl (pi_range1 (by rfl) T.range (pa_cons (pe_callB call_len_seq (by rfl) T.len (by decide +kernel) (pa_cons (pv 0) pa_nil)) pa_nil)) (pg_name (i := 5) sc_law_places.nd rfl (Or.inr rfl)) (pss_one (ps_if (pt_cmpR (r := rIn K true) op_notIn_seq (pv 5) (pv 3) (by rfl)) (pss_one (ps_expr (pe_bm PySem.F.plainAttrs_list PySem.F.slot_list_extend PySem.F.type_list_extend mt_extend (pv 4) (pa_cons (pe_lc (own := [("_law_room", 6)]) (g := gName 6) (tt := tYes) (by rfl) sc_law_places.nd (pi_range1 (by rfl) T.range (pa_cons (pe_ix (r := rIxT K) ix_tup (pv 0) (pv 5) (fun _ _ => rfl)) pa_nil)) (blkOk_by (own := [("_law_room", 6)]) (N := N_law_places) (sc := defScope s_law_places) (by decide +kernel)) (fun _ _ _ _ _ => (pg_name (i := 6) sc_law_places.nd rfl (Or.inl rfl))) (fun _ _ _ _ _ => pts_nil) (fun _ _ _ _ _ => (pe_tup (pa_cons (pv 5) (pa_cons (pv 6) pa_nil))))) pa_nil)))) pss_nil)))
      (pss_one (ps_ret (pe_lc (own := [("_law_place", 7)]) (g := gName 7) (by rfl) sc_law_places.nd (pi_list (pv 4)) (blkOk_by (own := [("_law_place", 7)]) (N := N_law_places) (sc := defScope s_law_places) (by decide +kernel)) (fun _ _ _ _ _ => (pg_name (i := 7) sc_law_places.nd rfl (Or.inl rfl))) (fun _ _ _ _ _ => (pts_one (pt_cmpR (r := rNeD K) (op_neD hu64) (pv 7) (pe_ix (r := rIxT K) ix_tup (pv 1) (pv 2) (fun _ _ => rfl)) (nomark _)))) (fun _ _ _ _ _ => (pv 7))))))), ?_⟩
    refine ⟨_, rfl, _, rfl, v, g, x, rfl, hv.mono sG, by rw [gd.len]; exact l24, gd.anc, fun H1 p ys s1 np ep hys => ⟨(by show 1 ≤ sizeLine; decide), fun o no => ⟨_, _, rfl, ?_⟩⟩⟩
    have X0 : Xt [] G H G (upd H1 o (.lst [.non])) := (Xt.same sG s1).newM no
    have no0 : H o = none := s1.free no
    have npo : p ≠ o := ne_of_none ep no
    refine ⟨_, rfl, va, _, rfl, .inr (SqT.of (X0.hk hva)), _, rfl, hb.1, hb.2, for_range (fun i σ H' => ∃ (G' : Hp) (acc : List V) (ps : List Place) (y5 : Option V), σ = [some (.ref va), some v, some (.int (x : Int)), some (.ref p), some (.ref o), y5, none, none] ∧ Xt [] G H G' H' ∧ H' p = some (.lst (nts ys)) ∧ H' o = some (.lst acc) ∧ G' o = none ∧
      RpA G' acc (ps.map pd) ∧ ps.length ≤ 1 + 4 * i ∧ ∀ pl ∈ ps, okP rs x pl ∧ mayGo g x pl) ⟨G, [.non], [none], none, rfl, X0, by rw [upd_ne npo]; exact ep, upd_same, sG.free no0, .cons .non .nil, by simp, fun pl h => by rw [List.mem_singleton.mp h]; exact ⟨trivial, trivial⟩⟩ ?_ ?_⟩
    · rintro y σ H2 hi ⟨G2, acc, ps, y5, rfl, X2, ep2, eo2, go2, racc, lps, hps⟩
      have hi' : y < rs.length := by simpa using hi
      rw [Int.zero_add]
      refine ⟨_, rfl, _, rfl, p, _, rfl, .inl (SqL.of ep2), rfl, flat_ints ys, _, rfl, ?_⟩
      by_cases hy : y ∈ ys
      · refine ifF_of (by rw [if_pos rfl]; exact congrArg Bool.not (inV_yes hy)) ?_
        exact ⟨G2, acc, ps, _, rfl, X2, ep2, eo2, go2, racc, by omega, hps⟩
      · refine ifT_of (by rw [if_pos rfl]; exact congrArg Bool.not (inV_not hy)) ?_
        have em := List.getElem?_eq_getElem hi'
        have m4 := ok.le4 y _ em
        have hb2 := r62 (n := rs[y]) (by omega)
        obtain ⟨nyx, l, al, nl⟩ := hys y (by rw [gd.len]; exact hi') hy
        refine ⟨_, rfl, .inl ⟨rfl, _, SqL.of eo2⟩, _, rfl, _, rfl, va, _, _, _, rfl, rfl, SqT.of (X2.hk hva), atI_nat (rd_get hi'), _, rfl, hb2.1, hb2.2, fun D nD => ?_⟩
        have noD : o ≠ D := ne_of_none eo2 nD
        have npD : p ≠ D := ne_of_none ep2 nD
        have nD0 : H D = none := by
          cases z : H D with
          | none => rfl
          | some u =>
            have := X2.hk z
            rw [this] at nD
            cases nD
        refine rng_loop (fun j H' => ∃ (G' : Hp) (zs : List V), Xt [] G H G' H' ∧ Same G2 G' ∧ H' p = some (.lst (nts ys)) ∧ H' o = some (.lst acc) ∧ G' o = none ∧ H' D = some (.lst zs) ∧ G' D = none ∧ RpA G' zs (((List.range j).map fun r => some (y, r)).map pd)) ⟨G2, [], X2.newM nD, Same.refl _, by rw [upd_ne npD]; exact ep2, by rw [upd_ne noD]; exact eo2, go2, upd_same, X2.gh.free nD, .nil⟩ ?_ ?_
        · rintro j H3 hj ⟨G3, zs, X3, s23, ep3, eo3, go3, eD3, gD3, rz⟩
          have hj' : j < rs[y] := by simpa using hj
          refine ⟨rfl, ?_⟩
          refine ⟨_, rfl, _, rfl, (by show 2 ≤ sizeLine; decide), fun t nt => ?_⟩
          have ntD : D ≠ t := ne_of_none eD3 nt
          have nto : o ≠ t := ne_of_none eo3 nt
          have ntp : p ≠ t := ne_of_none ep3 nt
          have gt : G3 t = none := X3.gh.free nt
          have sg := same_new (o := .tup [.int (y : Int), .int (j : Int)]) gt
          rw [Int.zero_add]
          refine ⟨zs, by rw [upd_ne ntD]; exact eD3, ?_, upd G3 t (.tup [.int (y : Int), .int (j : Int)]), zs ++ [.ref t], ?_, s23.trans sg, ?_, ?_, ?_, upd_same, ?_, ?_⟩
          · rw [rz.len, List.length_map, List.length_map, List.length_range]
            exact small1000 (by omega)
          · exact (X3.new nt).mut (by rw [upd_ne ntD]; exact gD3) (.inr nD0)
          · rw [upd_ne npD, upd_ne ntp]; exact ep3
          · rw [upd_ne noD, upd_ne nto]; exact eo3
          · rw [upd_ne nto]; exact go3
          · rw [upd_ne ntD]; exact gD3
          · rw [List.range_succ, List.map_append, List.map_append]
            exact (rz.mono sg).snoc (.tup upd_same (.cons (.int _) (.cons (.int _) .nil)))
        · rintro H3 ⟨G3, zs, X3, s23, ep3, eo3, go3, eD3, gD3, rz⟩
          rw [Int.toNat_natCast] at rz
          have lz : zs.length = rs[y] := by rw [rz.len, List.length_map, List.length_map, List.length_range]
          have la : acc.length = ps.length := by rw [racc.len, List.length_map]
          refine ⟨o, D, acc, zs, rfl, rfl, eo3, eD3, Nat.le_of_lt (small1000 (by omega)), ?_⟩
          refine ⟨G3, acc ++ zs, ps ++ (List.range rs[y]).map fun r => some (y, r), _, rfl, X3.mut go3 (.inr no0), by rw [upd_ne npo]; exact ep3, upd_same, go3, ?_, ?_, ?_⟩
          · rw [List.map_append]
            exact (racc.mono s23).app rz
          · rw [List.length_append, List.length_map, List.length_range]
            omega
          · intro pl hpl
            rcases List.mem_append.mp hpl with hpl | hpl
            · exact hps pl hpl
            · obtain ⟨r, hr, rfl⟩ := List.mem_map.mp hpl
              exact ⟨⟨nyx, _, em, List.mem_range.mp hr⟩, nyx, l, al, nl⟩
    · rintro σ H2 ⟨G2, acc, ps, y5, rfl, X2, ep2, eo2, go2, racc, lps, hps⟩
      have en : (((nts rs).length : Nat) : Int).toNat = rs.length := by rw [List.length_map]; omega
      rw [en] at lps
      obtain ⟨a, xs, rfl, gA, hxs, hlen⟩ := fd_inv hv
      have hA := sG _ _ gA
      obtain ⟨z, ez, rz⟩ := fd_at hxs (List.getElem?_eq_getElem hx)
      have la : acc.length = ps.length := by rw [racc.len, List.length_map]
      refine ⟨_, rfl, o, rfl, ⟨_, SqL.of eo2⟩, fun D nD => ?_⟩
      have nD0 : H D = none := by
        cases z : H D with
        | none => rfl
        | some u =>
          have := X2.hk z
          rw [this] at nD
          cases nD
      refine lst_loop (xs := acc) (fun j H' => ∃ (zs : List V) (qs : List Place), Same H2 H' ∧ H' D = some (.lst zs) ∧ RpA G2 zs (qs.map pd) ∧ qs.length ≤ j ∧ ∀ pl ∈ qs, okP rs x pl ∧ mayGo g x pl ∧ g[x]? ≠ some pl) ⟨[], [], same_new nD, upd_same, .nil, Nat.le_refl _, fun pl h => absurd h List.not_mem_nil⟩ (fun j H' h => SqL.of (h.choose_spec.choose_spec.1 _ _ eo2)) ?_ ?_
      · rintro j y H3 ey ⟨zs, qs, s3, eD, rzs, lq, hq⟩
        obtain ⟨pl, epl, ry⟩ := pl_at racc ey
        have s23 := X2.gh.trans s3
        have hj := (List.getElem?_eq_some_iff.mp ey).1
        refine ⟨rfl, _, rfl, _, rfl, _, rfl, a, _, _, _, rfl, rfl, SqT.of (s3 _ _ (X2.hk hA)), atI_nat ez, _, _, (ry.mono s23).dp, (rz.mono (X2.gg.trans s23)).dp, (lo.pd _).shaped (by decide), (lo.pd _).shaped (by decide), _, rfl, ?_⟩
        rw [pd_eqv]
        have lz : zs.length = qs.length := by rw [rzs.len, List.length_map]
        by_cases hp : pl = g[x]
        · refine ifF_of (by rw [decide_eq_true hp]; rfl) ?_
          exact ⟨zs, qs, s3, eD, rzs, by omega, hq⟩
        · refine ifT_of (by rw [decide_eq_false hp]; rfl) ?_
          refine ⟨_, rfl, zs, eD, small1000 (by omega), zs ++ [y], qs ++ [pl], fun b u e => ?_, upd_same, ?_, ?_, fun pl' h' => ?_⟩
          · rw [upd_ne (ne_of_none e nD)]
            exact s3 _ _ e
          · rw [List.map_append]
            exact rzs.snoc ry
          · rw [List.length_append, List.length_singleton]
            omega
          · rcases List.mem_append.mp h' with h' | h'
            · exact hq pl' h'
            · rw [List.mem_singleton.mp h']
              have z := hps pl (List.mem_of_getElem? epl)
              exact ⟨z.1, z.2, fun e => hp (by rw [List.getElem?_eq_getElem hx] at e; exact (Option.some.inj e).symm)⟩
      · rintro H3 ⟨zs, qs, s3, eD, rzs, lq, hq⟩
        exact q G2 H3 D zs qs (X2.trans (Xt.same X2.gh s3)) nD0 eD rzs (by omega) hq
end
end KJ
set_option maxHeartbeats 4000000
namespace KJ
open PySem PySem.Spec PyProof.Rows L2 TL
section
variable {P : Program} {w : World} {K : PySem.W.Frag} {mg : Str → Option Value} {base : Heap} {t1 t2 : Tok} {f : Addr} {fd : FuncData}
/-! ### _law_hang_row -/
def sp_hang_row : Sp := fun vs H Q _ => ∃ (G : Hp) (a : Addr) (vr v : V) (rs : List Nat) (g : Forest), vs = [.ref a, vr, v] ∧ Same G H ∧ G a = none ∧ Src H a ∧ Rp G vr (rd rs) ∧ Rp G v (fod g) ∧ RsOk rs ∧ Good rs g ∧
  ∀ G' H' t R u zs (hs : List Hang), Xt [a] G H G' H' → Src H' a → G' t = some (.tup [.ref R, u]) → H R = none → H' R = some (.lst zs) → RpA G' zs (hs.map hd) → hangsOk rs [] g hs → hs.length ≤ 5 → Rp G' u (fod (behindL g hs)) → Q (.ref t) H'
theorem ok_law_hang_row (T : Txt mg t1 t2) (c_law_take : Cal P w K mg base 1 "_law_take" sp_take) (c_law_one : Cal P w K mg base 2 "_law_one" sp_one) (c_law_places : Cal P w K mg base 3 "_law_places" sp_places) (c_law_hung : Cal P w K mg base 1 "_law_hung" sp_put)
    (F : FunT K "_law_hang_row" s_law_hang_row f fd) : FnOk P w K mg base CX0 4 f fd ["_law_source", "_law_rooms_here", "_law_forest"] sp_hang_row := by
  refine F.ok sc_law_hang_row (fun vs H Q E h => ?_) (fun cdv A outer s H vs Q E hr h => ?_)
  · obtain ⟨G, a, vr, v, rs, g, rfl, _⟩ := h
    rfl
  · have hu64 := hu64_of hr
    obtain ⟨G, a, vr, v, rs, g, rfl, sG, ga, sa, hvr, hv, ok, gd, q⟩ := h
    obtain ⟨va, rfl, gV⟩ := rd_inv hvr
    have hva := sG _ _ gV
    have l24 := ok.len
    have hb := r62 (n := (nts rs).length) (by rw [List.length_map]; omega)
    have aM : a ∈ [a] := List.mem_singleton.mpr rfl
    obtain ⟨b0, m0, hA, so0⟩ := id sa
    have en : (((nts rs).length : Nat) : Int).toNat = rs.length := by rw [List.length_map]; omega
    refine ⟨_, (pss_cons (ps_par (i := 4) (j := 5) (by rfl) sc_law_hang_row.nd rfl rfl (by decide) rfl rfl (pa_cons (pe_lst pa_nil) (pa_cons (pe_lc (own := [("_law_x", 3)]) (g := gName 3) (tt := tYes) (by rfl) sc_law_hang_row.nd (pi_range1 (by rfl) T.range (pa_cons (pe_callB call_len_seq (by rfl) T.len (by decide +kernel) (pa_cons (pv 1) pa_nil)) pa_nil)) (blkOk_by (own := [("_law_x", 3)]) (N := N_law_hang_row) (sc := defScope s_law_hang_row) (by decide +kernel)) (fun _ _ _ _ _ => (pg_name (i := 3) sc_law_hang_row.nd rfl (Or.inl rfl))) (fun _ _ _ _ _ => pts_nil) (fun _ _ _ _ _ => (pv 3))) pa_nil)) (by rfl))
      (pss_cons (ps_for PassesOwn.never rfl (pi_range1 (by rfl) T.range (pa_cons (pe_op op_add pe_int (pe_c c_law_take hr (by decide) rfl (pa_cons (pv 0) (pa_cons pe_int pa_nil)))) pa_nil)) (pg_name (i := 6) sc_law_hang_row.nd rfl (Or.inl rfl)) (pss_cons (ps_set (i := 3) sc_law_hang_row.nd rfl (Or.inr rfl) (pe_ifExp (pt_cmpR (r := rNeD K) (op_neD hu64) (pv 5) (pe_lst pa_nil) (nomark _)) (pe_c c_law_one hr (by decide) rfl (pa_cons (pv 0) (pa_cons (pv 5) pa_nil))) pe_int))
      (pss_cons (ps_set (i := 7) sc_law_hang_row.nd rfl (Or.inl rfl) (pe_ifExp (pt_cmpR (r := rNeD K) (op_neD hu64) (pv 5) (pe_lst pa_nil) (nomark _)) (pe_c c_law_places hr (by decide) rfl (pa_cons (pv 1) (pa_cons (pv 2) (pa_cons (pv 3) pa_nil)))) (pe_lst pa_nil)))
      (pss_cons (ps_setLc (i := 5) (own := [("_law_y", 9)]) (g := gName 9) (by rfl) sc_law_hang_row.nd rfl rfl (sw_true rfl rfl rfl (by decide +kernel)) (pi_list (pv 5)) (blkOk_by (own := [("_law_y", 9)]) (N := N_law_hang_row) (sc := defScope s_law_hang_row) (by decide +kernel)) (fun _ _ _ _ _ => (pg_name (i := 9) sc_law_hang_row.nd rfl (Or.inl rfl))) (fun _ _ _ _ _ => (pts_one (pt_cmpR op_ne (pv 9) (pv 3) (nomark _)))) (fun _ _ _ _ _ => (pv 9)))
      (pss_one (ps_if (pt_cmpR (r := rNeD K) (op_neD hu64) (pv 7) (pe_lst pa_nil) (nomark _)) (pss_cons (ps_set (i := 8) sc_law_hang_row.nd rfl (Or.inl rfl) (pe_c c_law_one hr (by decide) rfl (pa_cons (pv 0) (pa_cons (pv 7) pa_nil))))
      (pss_cons (ps_set (i := 2) sc_law_hang_row.nd rfl (Or.inl rfl) (pe_c c_law_hung hr (by decide) rfl (pa_cons (pv 2) (pa_cons (pv 3) (pa_cons (pv 8) pa_nil)))))
      (pss_one (ps_expr (pe_bm PySem.F.plainAttrs_list PySem.F.slot_list_append PySem.F.type_list_append mt_append (pv 4) (pa_cons (pe_tup (pa_cons (pv 3) (pa_cons (pv 8) pa_nil))) pa_nil)))))) pss_nil))))))
      (pss_one (ps_ret (pe_tup (pa_cons (pv 4) (pa_cons (pv 2) pa_nil))))))), ?_⟩
    refine ⟨Nat.zero_le _, fun R nR => ⟨_, rfl, va, _, rfl, .inr (SqT.of (same_new nR _ _ hva)), _, rfl, hb.1, hb.2, fun D0 nD0 => ?_⟩⟩
    have XR : Xt [a] G H G (upd H R (.lst [])) := (Xt.refl sG).newM nR
    have eR0 : (upd H R (.lst [])) R = some (.lst []) := upd_same
    have sR := same_new (o := .lst []) nR
    revert XR eR0 sR nD0
    generalize upd H R (.lst []) = HR
    intro nD0 XR eR0 sR
    refine rng_loop (fun i H' => Same HR H' ∧ H' D0 = some (.lst (nts (List.range i)))) ⟨same_new nD0, upd_same⟩ ?_ ?_
    · rintro i H1 hi ⟨sm, eD⟩
      refine ⟨rfl, _, rfl, _, eD, ?_, fun c u e => ?_, ?_⟩
      · rw [List.length_map, List.length_range]
        have : i < rs.length := by simpa using hi
        exact small1000 (by omega)
      · rw [upd_ne (ne_of_none e nD0)]
        exact sm _ _ e
      · rw [upd_same, nts_range, Int.zero_add]
    rintro H1 ⟨sm1, eD0⟩
    rw [en] at eD0
    have X1 : Xt [a] G H G H1 := XR.trans (Xt.same XR.gh sm1)
    refine ⟨_, _, rfl, ?_⟩
    refine ⟨_, rfl, a, 5, rfl, by decide, by decide, sa.same (sR.trans sm1), fun n b m hn so => ⟨_, _, rfl, rfl, _, rfl, ?_⟩⟩
    have nD0a : D0 ≠ a := ne_src (sa.same sR) nD0
    have nRa : R ≠ a := ne_src sa nR
    have X2 := X1.mut (o := .lst [.int b, .int m]) ga (.inl aM)
    have s2 : Src (upd H1 a (.lst [.int b, .int m])) a := Src.upd so
    have eR2 : (upd H1 a (.lst [.int b, .int m])) R = some (.lst []) := by rw [upd_ne nRa]; exact sm1 _ _ eR0
    have eD2 : (upd H1 a (.lst [.int b, .int m])) D0 = some (.lst (nts (List.range rs.length))) := by rw [upd_ne nD0a]; exact eD0
    have nRD : D0 ≠ R := (ne_of_none eR0 nD0).symm
    revert X2 s2 eR2 eD2
    generalize upd H1 a (.lst [.int b, .int m]) = H2
    intro X2 s2 eR2 eD2
    have hb2 : -(2 ^ 62) ≤ 1 + (n : Int) ∧ 1 + (n : Int) < 2 ^ 62 := by
      have : (2 : Int) ^ 62 = 4611686018427387904 := by decide
      omega
    have e5 : (1 + (n : Int)).toNat ≤ 5 := by omega
    refine ⟨hb2.1, hb2.2, for_range (fun i σ H' => ∃ (G' : Hp) (v' : V) (D : Addr) (left : List Nat) (zs : List V) (hs : List Hang) (y3 y6 y7 y8 : Option V), σ = [some (.ref a), some (.ref va), some v', y3, some (.ref R), some (.ref D), y6, y7, y8, none] ∧ Xt [a] G H G' H' ∧ Src H' a ∧
      H' R = some (.lst zs) ∧ G' R = none ∧ H' D = some (.lst (nts left)) ∧ D ≠ a ∧ RpA G' zs (hs.map hd) ∧ hangsOk rs [] g hs ∧ hs.length ≤ i ∧ Rp G' v' (fod (behindL g hs)) ∧ (∀ x ∈ left, x < rs.length ∧ x ∉ hs.map (·.1)) ∧ left.length ≤ 24)
      ⟨G, v, D0, List.range rs.length, [], [], none, none, none, none, rfl, X2, s2, eR2, sG.free nR, eD2, nD0a, .nil, trivial, Nat.le_refl _, hv, fun x hx => ⟨List.mem_range.mp hx, by simp⟩, by rw [List.length_range]; exact l24⟩ ?_ ?_⟩
    · rintro i σ K1 hi ⟨G1, v', D, left, zs, hs, y3, y6, y7, y8, rfl, Y1, q1, eR, gR, eD, nDa, rz, hok, hlh, rv, hlf, ll⟩
      have gA : G1 a = none := Y1.nn _ _ hA ga
      have gV1 : G1 va = some (.tup (nts rs)) := Y1.gg _ _ gV
      have i5 : i < 5 := by omega
      -- x
      refine ⟨_, rfl, Nat.zero_le _, fun z1 nz1 => ?_⟩
      have sa1 := same_new (o := .lst []) nz1
      have Xa : Xt [a] G1 K1 G1 (upd K1 z1 (.lst [])) := (Xt.refl Y1.gh).newM nz1
      have ez1 : (upd K1 z1 (.lst [])) z1 = some (.lst []) := upd_same
      revert sa1 Xa ez1
      generalize upd K1 z1 (.lst []) = Ka
      intro sa1 Xa ez1
      refine ne_nil (sa1 _ _ eD) (nts_rp left) ez1 (nts_lo left) (by decide) ⟨_, rfl, ?_⟩
      cases left with
      | nil =>
        refine iteF ?_
        refine ⟨_, rfl, Nat.zero_le _, fun z2 nz2 => ?_⟩
        have sb := sa1.trans (same_new (o := .lst []) nz2)
        refine ne_nil (sb _ _ eD) (nts_rp []) upd_same (nts_lo []) (by decide) ⟨_, rfl, iteF ⟨Nat.zero_le _, fun P nP => ?_⟩⟩
        have sc := sb.trans (same_new (o := .lst []) nP)
        refine ⟨_, rfl, D, rfl, ⟨_, SqL.of (sc _ _ eD)⟩, fun D3 nD3 => ?_⟩
        have nPD : P ≠ D3 := ne_of_none upd_same nD3
        refine lst_loop (xs := nts []) (fun j H' => Same K1 H' ∧ H' D3 = some (.lst []) ∧ H' P = some (.lst [])) ⟨sc.trans (same_new nD3), upd_same, by rw [upd_ne nPD]; exact upd_same⟩ (fun j H' h => SqL.of (h.1 _ _ eD)) ?_ ?_
        · rintro j x H3 ex _
          simp at ex
        rintro K3 ⟨s3, eD3, eP3⟩
        have nD3a : D3 ≠ a := ne_src (q1.same sc) nD3
        refine ⟨_, rfl, Nat.zero_le _, fun z4 nz4 => ?_⟩
        have s4 := s3.trans (same_new (o := .lst []) nz4)
        refine ne_nil (ds := []) (k := 0) (same_new nz4 _ _ eP3) .nil upd_same .nil (by decide) ⟨_, rfl, iteF ?_⟩
        exact ⟨G1, v', D3, [], zs, hs, _, _, _, _, rfl, Y1.trans (Xt.same Y1.gh s4), q1.same s4, s4 _ _ eR, gR, same_new nz4 _ _ eD3, nD3a, rz, hok, by omega, rv, fun x h => absurd h List.not_mem_nil, Nat.zero_le _⟩
      | cons x0 xr =>
        refine iteT ?_
        refine ⟨_, rfl, _, rfl, a, D, nts (x0 :: xr), rfl, sa1 _ _ eD, by simp, by rw [List.length_map]; omega, nDa, q1.same sa1, fun j xv b m ej so => ?_⟩
        obtain ⟨x, ex, rfl⟩ := map_at ej
        obtain ⟨xlt, xnot⟩ := hlf x (List.mem_of_getElem? ex)
        have Xb := Xa.mut (o := .lst [.int b, .int m]) gA (.inl aM)
        have sb : Src (upd Ka a (.lst [.int b, .int m])) a := Src.upd so
        revert Xb sb
        generalize upd Ka a (.lst [.int b, .int m]) = Kb
        intro Xb sb
        -- places
        refine ⟨_, rfl, Nat.zero_le _, fun z2 nz2 => ?_⟩
        have Xc := Xb.newM (o := .lst []) nz2
        have sc := sb.same (same_new (o := .lst []) nz2)
        have ez2 : (upd Kb z2 (.lst [])) z2 = some (.lst []) := upd_same
        revert Xc sc ez2
        generalize upd Kb z2 (.lst []) = Kc
        intro Xc sc ez2
        have up : ∀ {M : Hp} {G' : Hp} {c : Addr} {o : HO}, Xt [a] G1 K1 G' M → c ≠ a → K1 c = some o → M c = some o := fun X n e => X.hh _ _ (by simpa using n) e
        refine ne_nil (up Xc nDa eD) (nts_rp (x0 :: xr)) ez2 (nts_lo _) (by decide) ⟨_, rfl, iteT ?_⟩
        refine ⟨_, rfl, _, rfl, _, rfl, G1, .ref va, v', rs, behindL g hs, x, rfl, Xc.gh, rd_mk gV1, rv, ok, behindL_good hs g [] gd hok, by rw [behindL_len, gd.len]; exact xlt, fun G4 K4 P zp ps X4 nP eP rP lP hP => ?_⟩
        have Xd := Xc.trans (X4.up (M := [a]))
        have sd := sc.keep X4
        have nPa : P ≠ a := ne_src sc nP
        -- left
        refine ⟨_, rfl, D, rfl, ⟨_, SqL.of (up Xd nDa eD)⟩, fun D3 nD3 => ?_⟩
        refine lst_loop (xs := nts (x0 :: xr)) (fun j H' => ∃ ys : List Nat, Same K4 H' ∧ H' D3 = some (.lst (nts ys)) ∧ ys.length ≤ j ∧ ∀ y ∈ ys, y ∈ x0 :: xr ∧ y ≠ x) ⟨[], same_new nD3, upd_same, Nat.le_refl _, fun y h => absurd h List.not_mem_nil⟩ (fun j H' h => SqL.of (h.choose_spec.1 _ _ (up Xd nDa eD))) ?_ ?_
        · rintro j yv H3 ey ⟨ys, s3, eD3, hly, hys⟩
          obtain ⟨y, ey', rfl⟩ := map_at ey
          have hj := (List.getElem?_eq_some_iff.mp ey').1
          refine ⟨rfl, _, rfl, _, rfl, rfl, _, rfl, ?_⟩
          by_cases hyx : y = x
          · refine ifF_of (by rw [hyx, decide_eq_true rfl]; rfl) ?_
            exact ⟨ys, s3, eD3, by omega, hys⟩
          · refine iteNT (by intro z; have := V.int.inj z; omega) ?_
            refine ⟨_, rfl, _, eD3, by rw [List.length_map]; exact small1000 (by omega), ys ++ [y], fun c u e => ?_, ?_, ?_, fun z hz => ?_⟩
            · rw [upd_ne (ne_of_none e nD3)]
              exact s3 _ _ e
            · rw [upd_same, nts_snoc]
            · rw [List.length_append, List.length_singleton]
              omega
            · rcases List.mem_append.mp hz with hz | hz
              · exact hys z hz
              · rw [List.mem_singleton.mp hz]
                exact ⟨List.mem_of_getElem? ey', hyx⟩
        rintro K5 ⟨ys, s5, eD5, hly, hys⟩
        rw [List.length_map] at hly
        have nD3a : D3 ≠ a := ne_src sd nD3
        have Xe := Xd.trans (Xt.same Xd.gh s5)
        have se := sd.same s5
        refine ⟨_, rfl, Nat.zero_le _, fun z4 nz4 => ?_⟩
        have Xf := Xe.newM (o := .lst []) nz4
        have s6 := same_new (o := .lst []) nz4
        have ez4 : (upd K5 z4 (.lst [])) z4 = some (.lst []) := upd_same
        revert Xf s6 ez4
        generalize upd K5 z4 (.lst []) = K6
        intro Xf s6 ez4
        have sf := se.same s6
        have eP6 := s6 _ _ (s5 _ _ eP)
        have gR4 : G4 R = none := Xf.nn _ _ eR gR
        have gA4 : G4 a = none := Xf.nn _ _ (id q1).choose_spec.choose_spec.1 gA
        refine ne_nil eP6 (rP.mono Xf.gh) ez4 (pds_lo ps) (by decide) ⟨_, rfl, ?_⟩
        cases ps with
        | nil =>
          refine iteF ?_
          exact ⟨G4, v', D3, ys, zs, hs, _, _, _, _, rfl, Y1.trans Xf, sf, up Xf nRa eR, gR4, s6 _ _ eD5, nD3a, rz.mono Xf.gg, hok, by omega, rv.mono Xf.gg, fun y h => hlf y (hys y h).1, by omega⟩
        | cons p0 pr =>
          refine iteT ?_
          have lzp : zp.length = pr.length + 1 := by rw [rP.len, List.length_map]; rfl
          refine ⟨_, rfl, _, rfl, a, P, zp, rfl, eP6, (by intro z; rw [z] at lzp; cases lzp), by rw [List.length_cons] at lP; omega, nPa, sf, fun k yv b m ek so => ?_⟩
          obtain ⟨pl, epl, ry⟩ := pl_at rP ek
          obtain ⟨hp1, hp2, hp3⟩ := hP pl (List.mem_of_getElem? epl)
          have Xg := Xf.mut (o := .lst [.int b, .int m]) gA4 (.inl aM)
          have sg : Src (upd K6 a (.lst [.int b, .int m])) a := Src.upd so
          have eD7 : (upd K6 a (.lst [.int b, .int m])) D3 = some (.lst (nts ys)) := by rw [upd_ne nD3a]; exact s6 _ _ eD5
          revert Xg sg eD7
          generalize upd K6 a (.lst [.int b, .int m]) = K7
          intro Xg sg eD7
          -- forest
          obtain ⟨av, xs, rfl, gav, hxs, hlen⟩ := fd_inv rv
          rw [behindL_len] at hlen
          have lg : g.length = rs.length := gd.len
          refine ⟨_, rfl, _, rfl, _, rfl, av, xs, x, yv, rfl, Xg.gh _ _ (Xg.gg _ _ gav), by omega, by omega, fun K8 p s8 np ep => ?_⟩
          have r8 := put_after (g := behindL g hs) (x := x) Xg.gh s8 np ep (hxs.mono Xg.gg) ry
          have X8 : Xt [a] G4 K7 (absorb G4 K7 K8) K8 := Xt.absorb Xg.gh s8
          have Xh := Xg.trans X8
          have sh := sg.same s8
          have eR8 := up Xh nRa eR
          -- append
          refine ⟨_, rfl, .inl ⟨rfl, _, SqL.of eR8⟩, _, rfl, _, rfl, (by show 2 ≤ sizeLine; decide), fun t nt => ?_⟩
          have Xi := Xh.new (o := .tup [.int (x : Int), yv]) nt
          have gt := Xh.gh.free nt
          have sgt := same_new (o := .tup [.int (x : Int), yv]) gt
          have ntR : R ≠ t := ne_of_none eR8 nt
          refine ⟨R, zs, .ref t, rfl, rfl, by rw [upd_ne ntR]; exact eR8, ?_, ?_⟩
          · rw [rz.len, List.length_map]
            exact small1000 (by omega)
          have gR8 : upd (absorb G4 K7 K8) t (.tup [.int (x : Int), yv]) R = none := by
            rw [upd_ne ntR]
            exact Xh.nn _ _ eR gR
          refine ⟨upd (absorb G4 K7 K8) t (.tup [.int (x : Int), yv]), .ref p, D3, ys, zs ++ [.ref t], hs ++ [(x, pl)], _, _, _, _, rfl, (Y1.trans Xi).mut gR8 (.inr nR), ?_, upd_same, gR8, ?_, nD3a, ?_, ?_, ?_, ?_, ?_, by omega⟩
          · exact Src.ne (H' := H) (Src.ne (H' := H) sh (ne_src sh nt)) nRa
          · have nDR : D3 ≠ R := by
              rintro rfl
              have := up Xd nRa eR
              rw [nD3] at this
              cases this
            rw [upd_ne nDR, upd_ne (ne_of_none (s8 _ _ eD7) nt)]
            exact s8 _ _ eD7
          · rw [List.map_append]
            exact (rz.mono Xi.gg).snoc (.tup upd_same (.cons (.int _) (.cons ((ry.mono X8.gg).mono sgt) .nil)))
          · exact hangsOk_app hs [(x, pl)] [] g hok ⟨by rw [behindL_len, lg]; exact xlt, by simpa using xnot, hp3, hp1, hp2, trivial⟩
          · rw [List.length_append, List.length_singleton]
            omega
          · rw [behindL_app]
            exact r8.mono sgt
          · intro y hy
            obtain ⟨h1, h2⟩ := hys y hy
            obtain ⟨h3, h4⟩ := hlf y h1
            refine ⟨h3, ?_⟩
            rw [List.map_append, List.mem_append, not_or]
            exact ⟨h4, by simpa using h2⟩
    · rintro σ K1 ⟨G1, v', D, left, zs, hs, y3, y6, y7, y8, rfl, Y1, q1, eR, gR, eD, nDa, rz, hok, hlh, rv, hlf, ll⟩
      refine ⟨_, rfl, _, rfl, (by show 2 ≤ sizeLine; decide), fun t nt => ?_⟩
      have gt := Y1.gh.free nt
      have sg := same_new (o := .tup [.ref R, v']) gt
      exact q _ _ t R v' zs hs (Y1.new nt) (Src.ne (H' := H) q1 (ne_src q1 nt)) upd_same nR (same_new nt _ _ eR) (rz.mono sg) hok (by omega) (rv.mono sg)
end
end KJ
set_option maxHeartbeats 4000000
namespace KJ
open PySem PySem.Spec PyProof.Rows L2 TL
/-! ### journals, as the law makes them -/
abbrev nlV (p : List Nat) : V := V.str (mkS (p ++ [10]))
def rowsV (g : Forest) (l : List Row) : List V := (jT g l).map nlV
def stsL : Sta → List Row → List PyData
  | s, [] => [std s]
  | s, r :: l => std s :: stsL (stepR s r) l
theorem rowsT_snoc : ∀ (l : List Row) (k : Nat) (r : Row), rowsT k (l ++ [r]) = rowsT k l ++ [rowT (k + l.length) r]
  | [], k, r => rfl
  | x :: l, k, r => by
    show rowT k x :: rowsT (k + 1) (l ++ [r]) = rowT k x :: (rowsT (k + 1) l ++ [rowT (k + (l.length + 1)) r])
    rw [rowsT_snoc l (k + 1) r]
    have e : k + 1 + l.length = k + (l.length + 1) := by omega
    rw [e]
theorem rowsV_snoc (g : Forest) (l : List Row) (r : Row) : rowsV g (l ++ [r]) = rowsV g l ++ [nlV (rowT (l.length + 1) r)] := by
  unfold rowsV jT
  rw [rowsT_snoc, ← List.cons_append, List.map_append, Nat.add_comm 1]
  rfl
theorem rowsV_len (g : Forest) (l : List Row) : (rowsV g l).length = l.length + 1 := by
  unfold rowsV
  rw [List.length_map]
  show (rowsT 1 l).length + 1 = _
  rw [rowsT_len]
theorem stsL_snoc : ∀ (l : List Row) (s : Sta) (r : Row), stsL s (l ++ [r]) = stsL s l ++ [std (stepR (stF s l) r)]
  | [], s, r => rfl
  | x :: l, s, r => by
    show std s :: stsL (stepR s x) (l ++ [r]) = _
    rw [stsL_snoc l (stepR s x) r]
    rfl
theorem stsL_len : ∀ (l : List Row) (s : Sta), (stsL s l).length = l.length + 1
  | [], s => rfl
  | x :: l, s => by
    show (stsL (stepR s x) l).length + 1 = _
    rw [stsL_len l]
    rfl
theorem stsL_at : ∀ (l : List Row) (s : Sta) (i : Nat), i ≤ l.length → (stsL s l)[i]? = some (std (stF s (l.take i)))
  | [], s, 0, _ => rfl
  | [], s, i + 1, h => absurd h (by simp)
  | x :: l, s, 0, _ => rfl
  | x :: l, s, i + 1, h => stsL_at l (stepR s x) i (by simpa using h)
theorem rowT_shut (n : Nat) : rowT n .shut ++ [10] = shutL n := by
  show joinL [32] [numL n, wShut] ++ [10] = _
  rw [joinL_sp]
  rfl
theorem rowT_op (n : Nat) (hs : List Hang) : rowT n (.op hs) ++ [10] = openL n hs := by
  show joinL [32] (numL n :: wOpen :: hs.map hwL) ++ [10] = _
  rw [joinL_sp]
  rfl
theorem rowT_ly (n : Nat) (g : Forest) : rowT n (.ly g) ++ [10] = layL n g := by
  show joinL [32] (numL n :: wLay :: g.map pwL) ++ [10] = _
  rw [joinL_sp]
  rfl
theorem baseT_nl (g : Forest) : baseT g ++ [10] = baseL g := by
  show joinL [32] ([48] :: wBase :: g.map pwL) ++ [10] = _
  rw [joinL_sp]
  unfold baseL rowL
  rw [num0]
theorem okF_of {rs : List Nat} {g : Forest} (gd : Good rs g) (ok : RsOk rs) : okF g := ⟨by rw [gd.len]; exact ok.len, fun p hp => by
  obtain ⟨i, e⟩ := List.getElem?_of_mem hp
  exact okP_okw (gd.ok i p e) ok.len ok.le4⟩
theorem okH_of {rs : List Nat} {g : Forest} {hs : List Hang} (h : hangsOk rs [] g hs) (gd : Good rs g) (ok : RsOk rs) (l : hs.length ≤ 24) : okH hs := ⟨l, fun x hx => by
  obtain ⟨i, e⟩ := List.getElem?_of_mem hx
  obtain ⟨h1, _, _, _, h2, _⟩ := hangsOk_at h e
  rw [behindL_len, gd.len] at h1
  have := ok.len
  exact ⟨by omega, okP_okw h2 ok.len ok.le4⟩⟩
theorem upd_comm {H : Hp} {p q : Addr} {o u : HO} (n : p ≠ q) : L2.upd (L2.upd H p o) q u = L2.upd (L2.upd H q u) p o := by
  funext b
  by_cases h1 : b = q
  · subst h1
    rw [upd_same, upd_ne (Ne.symm n), upd_same]
  · rw [upd_ne h1]
    by_cases h2 : b = p
    · subst h2
      rw [upd_same, upd_same]
    · rw [upd_ne h2, upd_ne h2, upd_ne h1]
theorem hds_lo (hs : List Hang) : loA 2 (hs.map hd) := .all fun d h => by
  obtain ⟨p, _, rfl⟩ := List.mem_map.mp h
  exact lo.hd p
structure JInv (G H : Hp) (a R S : Addr) (rs : List Nat) (g : Forest) (l : List Row) (zs : List V) (G' H' : Hp) (v w5 w6 : V) : Prop where
  x : Xt [a] G H G' H'
  s : Src H' a
  eR : H' R = some (.lst (rowsV g l))
  eS : H' S = some (.lst zs)
  gR : G' R = none
  gS : G' S = none
  rz : RpA G' zs (stsL ⟨g, none⟩ l)
  j : jOk rs ⟨g, none⟩ l
  v : Rp G' v (fod (stF ⟨g, none⟩ l).g)
  p : Rp G' w5 (pnd (stF ⟨g, none⟩ l).p)
  b : ∀ pn, (stF ⟨g, none⟩ l).p = some pn → Rp G' w6 (fod (closedL (stF ⟨g, none⟩ l).g pn))
/-- the rows' text is there; the state is to be put -/
theorem JInv.step {G H : Hp} {a R S t : Addr} {rs : List Nat} {g : Forest} {l : List Row} {zs : List V} {G1 H1 G4 H4 : Hp} {v w5 w6 v' w5' w6' : V} {r : Row} (I : JInv G H a R S rs g l zs G1 H1 v w5 w6) (X : Xt [a] G1 H1 G4 H4) (s4 : Src H4 a) (nR : H R = none) (nS : H S = none) (nRS : R ≠ S) (nSa : S ≠ a) (nRa : R ≠ a)
    (ro : rowOk rs (stF ⟨g, none⟩ l) r) (hv : Rp G4 v' (fod (stepR (stF ⟨g, none⟩ l) r).g)) (hp : Rp G4 w5' (pnd (stepR (stF ⟨g, none⟩ l) r).p))
    (hb : ∀ pn, (stepR (stF ⟨g, none⟩ l) r).p = some pn → Rp G4 w6' (fod (closedL (stepR (stF ⟨g, none⟩ l) r).g pn)))
    (nt : (upd H4 R (.lst (rowsV g l ++ [nlV (rowT (l.length + 1) r)]))) t = none) :
    JInv G H a R S rs g (l ++ [r]) (zs ++ [.ref t]) (upd G4 t (.tup [v', w5'])) (upd (upd (upd H4 R (.lst (rowsV g l ++ [nlV (rowT (l.length + 1) r)]))) t (.tup [v', w5'])) S (.lst (zs ++ [.ref t]))) v' w5' w6' := by
  have eS4 : H4 S = some (.lst zs) := X.hh _ _ (by simpa using nSa) I.eS
  have eR4 : H4 R = some (.lst (rowsV g l)) := X.hh _ _ (by simpa using nRa) I.eR
  have gS4 : G4 S = none := X.nn _ _ I.eS I.gS
  have gR4 : G4 R = none := X.nn _ _ I.eR I.gR
  have XR : Xt [a] G H G4 (upd H4 R (.lst (rowsV g l ++ [nlV (rowT (l.length + 1) r)]))) := (I.x.trans X).mut gR4 (.inr nR)
  have gt : G4 t = none := XR.gh.free nt
  have eSR : (upd H4 R (.lst (rowsV g l ++ [nlV (rowT (l.length + 1) r)]))) S = some (.lst zs) := by rw [upd_ne nRS.symm]; exact eS4
  have nSt : S ≠ t := ne_of_none eSR nt
  have nRt : R ≠ t := ne_of_none upd_same nt
  have sg := same_new (o := .tup [v', w5']) gt
  have XS := (XR.new (o := .tup [v', w5']) nt).mut (o := .lst (zs ++ [.ref t])) (by rw [upd_ne nSt]; exact gS4) (.inr nS)
  have sR : Src (upd H4 R (.lst (rowsV g l ++ [nlV (rowT (l.length + 1) r)]))) a := Src.ne (H' := H) s4 nRa
  have e := stF_app l [r] ⟨g, none⟩
  have e2 : stF ⟨g, none⟩ (l ++ [r]) = stepR (stF ⟨g, none⟩ l) r := e
  refine ⟨XS, Src.ne (H' := H) (Src.ne (H' := H) sR (ne_src sR nt)) nSa, ?_, upd_same, ?_, ?_, ?_, jOk_app I.j ⟨ro, trivial⟩, ?_, ?_, ?_⟩
  · rw [upd_ne nRS, upd_ne nRt, upd_same, rowsV_snoc]
  · rw [upd_ne nRt]; exact gR4
  · rw [upd_ne nSt]; exact gS4
  · rw [stsL_snoc]
    exact (I.rz.mono (X.gg.trans sg)).snoc (.tup upd_same (.cons (hv.mono sg) (.cons (hp.mono sg) .nil)))
  · rw [e2]; exact hv.mono sg
  · rw [e2]; exact hp.mono sg
  · rw [e2]; exact fun pn h => (hb pn h).mono sg
section
variable {P : Program} {w : World} {K : PySem.W.Frag} {mg : Str → Option Value} {base : Heap} {t1 t2 : Tok} {f : Addr} {fd : FuncData}
/-! ### _law_journal -/
def sp_journal : Sp := fun vs H Q _ => ∃ (G : Hp) (a : Addr) (vr v : V) (rs : List Nat) (g : Forest), vs = [.ref a, vr, v] ∧ Same G H ∧ G a = none ∧ Src H a ∧ Rp G vr (rd rs) ∧ Rp G v (fod g) ∧ RsOk rs ∧ Good rs g ∧
  ∀ G' H' t R S zs (l : List Row), Xt [a] G H G' H' → Src H' a → G' t = some (.tup [.ref R, .ref S]) → R ≠ a → S ≠ a → H' R = some (.lst (rowsV g l)) → H' S = some (.lst zs) → RpA G' zs (stsL ⟨g, none⟩ l) → jOk rs ⟨g, none⟩ l → l.length ≤ 5 → Q (.ref t) H'
theorem ok_law_journal (T : Txt mg t1 t2) (c_law_take : Cal P w K mg base 1 "_law_take" sp_take) (c_law_one : Cal P w K mg base 2 "_law_one" sp_one) (c_law_grown : Cal P w K mg base 3 "_law_grown" sp_grown) (c_law_hang_row : Cal P w K mg base 4 "_law_hang_row" sp_hang_row)
    (c_law_base : Cal P w K mg base 2 "_law_base" sp_base_text) (c_law_open : Cal P w K mg base 2 "_law_open" sp_lopen) (c_law_lay : Cal P w K mg base 2 "_law_lay" sp_lay_text)
    (F : FunT K "_law_journal" s_law_journal f fd) : FnOk P w K mg base CX0 5 f fd ["_law_source", "_law_rooms_here", "_law_forest"] sp_journal := by
  refine F.ok sc_law_journal (fun vs H Q E h => ?_) (fun cdv A outer s H vs Q E hr h => ?_)
  · obtain ⟨G, a, vr, v, rs, g, rfl, _⟩ := h
    rfl
  · have hu64 := hu64_of hr
    obtain ⟨G, a, vr, v, rs, g, rfl, sG, ga, sa, hvr, hv, ok, gd, q⟩ := h
    have aM : a ∈ [a] := List.mem_singleton.mpr rfl
    obtain ⟨b0, m0, hA, so0⟩ := id sa
    refine ⟨_, (pss_cons (ps_asg (pe_tup (pa_cons (pe_lst (pa_cons (pe_c c_law_base hr (by decide) rfl (pa_cons (pv 2) pa_nil)) pa_nil)) (pa_cons (pe_lst (pa_cons (pe_tup (pa_cons (pv 2) (pa_cons pe_non pa_nil))) pa_nil)) (pa_cons pe_non (pa_cons pe_non pa_nil))))) (pg_tup rfl (pgs_cons (pg_name (i := 3) sc_law_journal.nd rfl (Or.inl rfl)) (pgs_cons (pg_name (i := 4) sc_law_journal.nd rfl (Or.inl rfl)) (pgs_cons (pg_name (i := 5) sc_law_journal.nd rfl (Or.inl rfl)) (pgs_cons (pg_name (i := 6) sc_law_journal.nd rfl (Or.inl rfl)) pgs_nil))))))
      (pss_cons (ps_for PassesOwn.never rfl (pi_range1 (by rfl) T.range (pa_cons (pe_c c_law_take hr (by decide) rfl (pa_cons (pv 0) (pa_cons pe_int pa_nil))) pa_nil)) (pg_name (i := 7) sc_law_journal.nd rfl (Or.inl rfl)) (pss_cons (ps_par (i := 8) (j := 9) (by rfl) sc_law_journal.nd rfl rfl (by decide) rfl rfl (pa_cons (pe_callB call_len_seq (by rfl) T.len (by decide +kernel) (pa_cons (pv 3) pa_nil)) (pa_cons (pe_c c_law_take hr (by decide) rfl (pa_cons (pv 0) (pa_cons pe_int pa_nil))) pa_nil)) (by rfl))
      (pss_cons (ps_asg (pe_c c_law_hang_row hr (by decide) rfl (pa_cons (pv 0) (pa_cons (pv 1) (pa_cons (pv 2) pa_nil)))) (pg_tup rfl (pgs_cons (pg_name (i := 10) sc_law_journal.nd rfl (Or.inl rfl)) (pgs_cons (pg_name (i := 11) sc_law_journal.nd rfl (Or.inl rfl)) pgs_nil))))
      (pss_cons (ps_if (PW.pt (pw_and (pt_cmpR op_notN (pv 5) pe_non (nomark _)) (pw_and1 (pt_cmpR op_lt (pv 9) pe_int (nomark _))))) (pss_cons (ps_expr (pe_bm PySem.F.plainAttrs_list PySem.F.slot_list_append PySem.F.type_list_append mt_append (pv 3) (pa_cons (pe_op op_add_str (pe_callTy call_str_int (by rfl) T.str (by decide +kernel) (pa_cons (pv 8) pa_nil)) pe_str) pa_nil)))
      (pss_one (ps_par3 (i := 2) (j := 5) (l := 6) (by rfl) sc_law_journal.nd rfl rfl rfl (by decide) (by decide) (by decide) rfl rfl rfl (pa_cons (pv 6) (pa_cons pe_non (pa_cons pe_non pa_nil))) (by rfl)))) (pss_one (ps_if (PW.pt (pw_and (pt_cmpR op_isN (pv 5) pe_non (nomark _)) (pw_and (pt_cmpR op_lt (pv 9) pe_int (nomark _)) (pw_and1 (pt_cmpR (r := rNeD K) (op_neD hu64) (pv 10) (pe_lst pa_nil) (nomark _)))))) (pss_cons (ps_expr (pe_bm PySem.F.plainAttrs_list PySem.F.slot_list_append PySem.F.type_list_append mt_append (pv 3) (pa_cons (pe_c c_law_open hr (by decide) rfl (pa_cons (pv 8) (pa_cons (pv 10) pa_nil))) pa_nil)))
      (pss_one (ps_par (i := 5) (j := 6) (by rfl) sc_law_journal.nd rfl rfl (by decide) rfl rfl (pa_cons (pe_tup (pa_cons pe_str (pa_cons (pe_callTy call_tuple_of (by rfl) T.tuple (by decide +kernel) (pa_cons (pv 10) pa_nil)) pa_nil))) (pa_cons (pv 11) pa_nil)) (by rfl)))) (pss_cons (ps_set (i := 6) sc_law_journal.nd rfl (Or.inl rfl) (pe_c c_law_one hr (by decide) rfl (pa_cons (pv 0) (pa_cons (pe_lst (pa_cons (pv 2) (pa_cons (pe_c c_law_grown hr (by decide) rfl (pa_cons (pv 0) (pa_cons (pv 1) pa_nil))) (pa_cons (pe_c c_law_grown hr (by decide) rfl (pa_cons (pv 0) (pa_cons (pv 1) pa_nil))) pa_nil)))) pa_nil))))
      (pss_cons (ps_expr (pe_bm PySem.F.plainAttrs_list PySem.F.slot_list_append PySem.F.type_list_append mt_append (pv 3) (pa_cons (pe_c c_law_lay hr (by decide) rfl (pa_cons (pv 8) (pa_cons (pv 6) pa_nil))) pa_nil)))
      (pss_one (ps_set (i := 5) sc_law_journal.nd rfl (Or.inl rfl) (pe_tup (pa_cons pe_str (pa_cons (pv 6) pa_nil))))))))))
      (pss_one (ps_expr (pe_bm PySem.F.plainAttrs_list PySem.F.slot_list_append PySem.F.type_list_append mt_append (pv 4) (pa_cons (pe_tup (pa_cons (pv 2) (pa_cons (pv 5) pa_nil))) pa_nil))))))))
      (pss_one (ps_ret (pe_tup (pa_cons (pv 3) (pa_cons (pv 4) pa_nil))))))), ?_⟩
    refine ⟨_, rfl, v, g, rfl, hv.mono sG, okF_of gd ok, fun H1 s1 => ⟨(by show 1 ≤ sizeLine; decide), fun R nR => ⟨_, rfl, (by show 2 ≤ sizeLine; decide), fun t0 nt0 => ⟨(by show 1 ≤ sizeLine; decide), fun S nS => ⟨(by show 4 ≤ sizeLine; decide), fun t4 nt4 => ?_⟩⟩⟩⟩⟩
    have X1 : Xt [a] G H G (upd H1 R (.lst [.str (mkS (baseL g))])) := (Xt.same sG s1).newM nR
    have eR1 : (upd H1 R (.lst [.str (mkS (baseL g))])) R = some (.lst (rowsV g [])) := by
      rw [upd_same]
      show _ = some (HO.lst [nlV (baseT g)])
      unfold nlV
      rw [baseT_nl]
    have nR0 := s1.free nR
    have nRa : R ≠ a := ne_src sa nR0
    have sR : Src (upd H1 R (.lst [.str (mkS (baseL g))])) a := Src.ne (H' := H) (sa.same s1) nRa
    revert X1 eR1 sR nt0 nS nt4
    generalize upd H1 R (.lst [.str (mkS (baseL g))]) = HR
    intro nt0 nS nt4 X1 eR1 sR
    have X2 := X1.new (o := .tup [v, .non]) nt0
    have gt0 := X1.gh.free nt0
    have sg2 := same_new (o := .tup [v, .non]) gt0
    have nRt0 : R ≠ t0 := ne_of_none eR1 nt0
    have nRS : R ≠ S := ne_of_none (same_new nt0 _ _ eR1) nS
    have nt0S : t0 ≠ S := ne_of_none upd_same nS
    have nS0 : H S = none := by
      cases z : H S with
      | none => rfl
      | some u =>
        obtain ⟨o', e'⟩ := X2.lv _ _ z
        rw [e'] at nS
        cases nS
    have nSa : S ≠ a := ne_src sa nS0
    have X3 := X2.newM (o := .lst [.ref t0]) nS
    have s3 : Src (upd (upd HR t0 (.tup [v, .non])) S (.lst [.ref t0])) a := Src.ne (H' := H) (Src.ne (H' := H) sR (ne_src sR nt0)) nSa
    have eR3 : (upd (upd HR t0 (.tup [v, .non])) S (.lst [.ref t0])) R = some (.lst (rowsV g [])) := by rw [upd_ne nRS, upd_ne nRt0]; exact eR1
    have eS3 : (upd (upd HR t0 (.tup [v, .non])) S (.lst [.ref t0])) S = some (.lst [.ref t0]) := upd_same
    revert X3 s3 eR3 eS3 nt4
    generalize upd (upd HR t0 (.tup [v, .non])) S (.lst [.ref t0]) = H3
    intro nt4 X3 s3 eR3 eS3
    refine ⟨t4, _, rfl, SqT.of upd_same, rfl, _, _, rfl, _, _, rfl, _, _, rfl, _, _, rfl, rfl, ?_⟩
    have gR0 : G R = none := sG.free nR0
    have gS0 : G S = none := sG.free nS0
    have I0 : JInv G H a R S rs g [] [.ref t0] (upd G t0 (.tup [v, .non])) (upd H3 t4 (.tup [.ref R, .ref S, .non, .non])) v .non .non :=
      ⟨X3.newM nt4, Src.ne (H' := H) s3 (ne_src s3 nt4), same_new nt4 _ _ eR3, same_new nt4 _ _ eS3, by rw [upd_ne nRt0]; exact gR0, by rw [upd_ne nt0S.symm]; exact gS0, .cons (.tup upd_same (.cons (hv.mono sg2) (.cons .non .nil))) .nil, trivial, hv.mono sg2, .non, fun pn h => by cases h⟩
    revert I0
    generalize upd H3 t4 (.tup [.ref R, .ref S, .non, .non]) = H4
    generalize upd G t0 (.tup [v, .non]) = G4
    intro I0
    refine ⟨_, rfl, a, 6, rfl, by decide, by decide, I0.s, fun n b m hn so => ?_⟩
    have I1 : JInv G H a R S rs g [] [.ref t0] G4 (upd H4 a (.lst [.int b, .int m])) v .non .non :=
      ⟨I0.x.mut (I0.x.nn _ _ hA ga) (.inl aM), Src.upd so, by rw [upd_ne nRa]; exact I0.eR, by rw [upd_ne nSa]; exact I0.eS, I0.gR, I0.gS, I0.rz, I0.j, I0.v, I0.p, I0.b⟩
    have hb := r62 (n := n) (by omega)
    refine ⟨_, rfl, hb.1, hb.2, for_range (fun i σ H' => ∃ (G' : Hp) (l : List Row) (zs : List V) (v' w5 w6 : V) (y7 y8 y9 y10 y11 : Option V), σ = [some (.ref a), some vr, some v', some (.ref R), some (.ref S), some w5, some w6, y7, y8, y9, y10, y11] ∧ JInv G H a R S rs g l zs G' H' v' w5 w6 ∧ l.length = i)
      ⟨G4, [], _, v, .non, .non, none, none, none, none, none, rfl, I1, rfl⟩ ?_ ?_⟩
    · rintro i σ K1 hi ⟨G1, l, zs, v', w5, w6, y7, y8, y9, y10, y11, rfl, I, li⟩
      have i5 : i < 5 := by omega
      have so1 : StaOk rs (stF ⟨g, none⟩ l) := jOk_ok ⟨gd, trivial⟩ I.j
      have gA1 := I.x.nn _ _ hA ga
      refine ⟨_, rfl, R, _, rfl, .inl (SqL.of I.eR), _, rfl, a, 4, rfl, by decide, by decide, I.s, fun way b m hn so => ⟨_, _, rfl, ?_⟩⟩
      rw [rowsV_len]
      have Xa : Xt [a] G1 K1 G1 (upd K1 a (.lst [.int b, .int m])) := (Xt.refl I.x.gh).mut gA1 (.inl aM)
      have sa2 : Src (upd K1 a (.lst [.int b, .int m])) a := Src.upd so
      revert Xa sa2
      generalize upd K1 a (.lst [.int b, .int m]) = K2
      intro Xa sa2
      refine ⟨_, rfl, _, rfl, _, rfl, G1, a, vr, v', rs, (stF ⟨g, none⟩ l).g, rfl, Xa.gh, gA1, sa2, hvr.mono I.x.gg, I.v, ok, so1.good, fun G3 K3 t RR u zr hs X3 s3 et nRR eRR rzr hok hl5 ru => ?_⟩
      have X13 := Xa.trans X3
      have gA3 := X3.nn _ _ (id sa2).choose_spec.choose_spec.1 gA1
      have nRRa : RR ≠ a := ne_src sa2 nRR
      refine ⟨t, _, rfl, SqT.of (X3.gh _ _ et), rfl, _, _, rfl, _, _, rfl, rfl, ?_⟩
      have eR3 : K3 R = some (.lst (rowsV g l)) := X13.hh _ _ (by simpa using nRa) I.eR
      have eS3 : K3 S = some (.lst zs) := X13.hh _ _ (by simpa using nSa) I.eS
      have v3 : Rp G3 v' (fod (stF ⟨g, none⟩ l).g) := I.v.mono X13.gg
      have smallR : (rowsV g l).length < sizeLine := by rw [rowsV_len]; exact small1000 (by omega)
      have smallS : zs.length < sizeLine := by rw [I.rz.len, stsL_len]; exact small1000 (by omega)
      have hn4 : l.length + 1 < 10000 := by omega
      have l4 := num_len hn4
      refine ⟨_, rfl, rfl, _, rfl, ?_⟩
      cases hp : (stF ⟨g, none⟩ l).p with
      | some pn =>
        have rp := I.p
        rw [hp] at rp
        have ne : w5 ≠ .non := by
          cases pn with
          | op hs =>
            obtain ⟨c, _, e, _⟩ := Rp.tup_inv (ds := [.str (Str.ofString "open"), .tuple (hs.map hd)]) rp
            rw [e]
            intro z
            cases z
          | ly t =>
            obtain ⟨c, _, e, _⟩ := Rp.tup_inv (ds := [.str (Str.ofString "lay"), fod t]) rp
            rw [e]
            intro z
            cases z
        refine iteNT ne ⟨_, rfl, _, _, rfl, rfl, _, rfl, ?_⟩
        by_cases hw : way < 3
        · refine iteD (by omega) ?_
          refine ⟨_, rfl, .inl ⟨rfl, _, SqL.of eR3⟩, _, rfl, _, rfl, lg (by omega), num (l.length + 1), _, rfl, rfl, ?_, R, _, _, rfl, rfl, eR3, smallR, ?_⟩
          · rw [num_mkS, lit_shut, mkS_len, mkS_len]; exact sz (by show _ + 6 ≤ 100000; omega)
          rw [shut_eq]
          have et : V.str (mkS (shutL (l.length + 1))) = nlV (rowT (l.length + 1) .shut) := by
            unfold nlV
            rw [rowT_shut]
          rw [et]
          refine ⟨_, rfl, _, _, _, rfl, ?_⟩
          have eS8 : (upd K3 R (.lst (rowsV g l ++ [nlV (rowT (l.length + 1) .shut)]))) S = some (.lst zs) := by
            rw [upd_ne nRS.symm]
            exact eS3
          refine ⟨_, rfl, .inl ⟨rfl, _, SqL.of eS8⟩, _, rfl, _, rfl, (by show 2 ≤ sizeLine; decide), fun ts nts' => ?_⟩
          have nSts : S ≠ ts := ne_of_none eS8 nts'
          refine ⟨S, zs, .ref ts, rfl, rfl, by rw [upd_ne nSts]; exact eS8, smallS, ?_⟩
          have est : (stepR (stF ⟨g, none⟩ l) .shut).g = closedL (stF ⟨g, none⟩ l).g pn := by
            show (match (stF ⟨g, none⟩ l).p with | none => _ | some pn => closedL _ pn) = _
            rw [hp]
          refine ⟨_, _, _, _, _, _, _, _, _, _, _, rfl, I.step (r := .shut) (w6' := .non) X13 s3 nR0 nS0 nRS nSa nRa (fun h => by rw [hp] at h; cases h) ?_ .non (fun pn h => by cases h) nts', by rw [List.length_append, li]; rfl⟩
          rw [est]
          exact (I.b pn hp).mono X13.gg
        · refine iteDF (by omega) ?_
          refine ⟨_, rfl, rfl, _, rfl, iteDF ne (iteF ?_)⟩
          obtain ⟨Kx, eKx⟩ : ∃ Kx, Kx = K3 := ⟨_, rfl⟩
          have sK : Same K3 Kx := by rw [eKx]; exact Same.refl _
          rw [← eKx]
          have XL := X13.trans (Xt.same (M := [a]) X3.gh sK)
          have sL : Src Kx a := s3.same sK
          refine ⟨_, rfl, _, rfl, _, rfl, _, rfl, G3, a, vr, rs, rfl, XL.gh, gA3, sL, (hvr.mono I.x.gg).mono X13.gg, ok, fun G4 K4 u1 g1 X4 s4 gd1 ru1 => ?_⟩
          have gA4 := X4.nn _ _ sL.choose_spec.choose_spec.1 gA3
          refine ⟨_, rfl, _, rfl, G4, a, vr, rs, rfl, X4.gh, gA4, s4, ((hvr.mono I.x.gg).mono X13.gg).mono X4.gg, ok, fun G5 K5 u2 g2 X5 s5 gd2 ru2 => ⟨(by show 3 ≤ sizeLine; decide), fun tl ntl => ?_⟩⟩
          have gA5 := X5.nn _ _ s4.choose_spec.choose_spec.1 gA4
          refine ⟨a, tl, [v', u1, u2], rfl, upd_same, by simp, by simp, ne_src s5 ntl, Src.ne (H' := H) s5 (ne_src s5 ntl), fun j x b m ej so => ?_⟩
          obtain ⟨gx, gdx, rx⟩ : ∃ gx, Good rs gx ∧ Rp G5 x (fod gx) := by
            match j, ej with
            | 0, e => cases Option.some.inj e; exact ⟨_, so1.good, (v3.mono X4.gg).mono X5.gg⟩
            | 1, e => cases Option.some.inj e; exact ⟨_, gd1, ru1.mono X5.gg⟩
            | 2, e => cases Option.some.inj e; exact ⟨_, gd2, ru2⟩
            | n + 3, e => cases e
          have X6 := (((XL.trans X4).trans X5).newM (o := .lst [v', u1, u2]) ntl).mut (o := .lst [.int b, .int m]) gA5 (.inl aM)
          have s6 : Src (upd (upd K5 tl (.lst [v', u1, u2])) a (.lst [.int b, .int m])) a := Src.upd so
          revert X6 s6
          generalize upd (upd K5 tl (.lst [v', u1, u2])) a (.lst [.int b, .int m]) = K6
          intro X6 s6
          have eR6 : K6 R = some (.lst (rowsV g l)) := X6.hh _ _ (by simpa using nRa) I.eR
          have eS6 : K6 S = some (.lst zs) := X6.hh _ _ (by simpa using nSa) I.eS
          refine ⟨_, rfl, .inl ⟨rfl, _, SqL.of eR6⟩, _, rfl, _, rfl, l.length + 1, x, gx, rfl, hn4, rx.mono X6.gh, okF_of gdx ok, fun K7 s7 => ⟨R, _, _, rfl, rfl, s7 _ _ eR6, smallR, ?_⟩⟩
          have et : V.str (mkS (layL (l.length + 1) gx)) = nlV (rowT (l.length + 1) (.ly gx)) := by
            unfold nlV
            rw [rowT_ly]
          rw [et]
          refine ⟨_, rfl, (by show 2 ≤ sizeLine; decide), fun tp ntp => ?_⟩
          have nRtp : R ≠ tp := ne_of_none upd_same ntp
          have ntp7 : K7 tp = none := by rw [upd_ne nRtp.symm] at ntp; exact ntp
          rw [upd_comm nRtp]
          have X7 := X6.trans (Xt.same X6.gh s7)
          have X8 := X7.new (o := .tup [.str (Str.ofString "lay"), x]) ntp7
          have eS8 : (upd (upd K7 tp (.tup [.str (Str.ofString "lay"), x])) R (.lst (rowsV g l ++ [nlV (rowT (l.length + 1) (.ly gx))]))) S = some (.lst zs) := by
            rw [upd_ne nRS.symm]
            exact same_new ntp7 _ _ (s7 _ _ eS6)
          have s8 : Src (upd K7 tp (.tup [.str (Str.ofString "lay"), x])) a := Src.ne (H' := H) (s6.same s7) (ne_src (s6.same s7) ntp7)
          have rx8 := rx.mono (same_new (o := .tup [.str (Str.ofString "lay"), x]) (X7.gh.free ntp7))
          refine ⟨_, rfl, .inl ⟨rfl, _, SqL.of eS8⟩, _, rfl, _, rfl, (by show 2 ≤ sizeLine; decide), fun ts nts' => ?_⟩
          have nSts : S ≠ ts := ne_of_none eS8 nts'
          refine ⟨S, zs, .ref ts, rfl, rfl, by rw [upd_ne nSts]; exact eS8, smallS, ?_⟩
          exact ⟨_, _, _, _, _, _, _, _, _, _, _, rfl, I.step (r := .ly gx) (w6' := x) X8 s8 nR0 nS0 nRS nSa nRa gdx (I.v.mono X8.gg) (.tup upd_same (.cons (.str _) (.cons rx8 .nil))) (fun pn h => by cases Option.some.inj h; exact rx8) nts', by rw [List.length_append, li]; rfl⟩
      | none =>
        have rp := I.p
        rw [hp] at rp
        have e5 : w5 = .non := Rp.non_inv rp
        subst e5
        refine iteNS rfl (iteF ?_)
        refine ⟨_, rfl, rfl, _, rfl, iteD rfl ⟨_, rfl, _, _, rfl, rfl, _, rfl, ?_⟩⟩
        by_cases hw : way < 2
        · refine iteD (by omega) ⟨_, rfl, Nat.zero_le _, fun z nz => ?_⟩
          have sK := same_new (o := .lst []) nz
          have ez : (upd K3 z (.lst [])) z = some (.lst []) := upd_same
          revert sK ez
          generalize upd K3 z (.lst []) = Kx
          intro sK ez
          refine ne_nil (sK _ _ eRR) (rzr.mono (X3.gh.trans sK)) ez (hds_lo hs) (by decide) ⟨_, rfl, ?_⟩
          by_cases hh : hs = []
          · subst hh
            refine iteF ?_
            have XL := X13.trans (Xt.same (M := [a]) X3.gh sK)
            have sL : Src Kx a := s3.same sK
            refine ⟨_, rfl, _, rfl, _, rfl, _, rfl, G3, a, vr, rs, rfl, XL.gh, gA3, sL, (hvr.mono I.x.gg).mono X13.gg, ok, fun G4 K4 u1 g1 X4 s4 gd1 ru1 => ?_⟩
            have gA4 := X4.nn _ _ sL.choose_spec.choose_spec.1 gA3
            refine ⟨_, rfl, _, rfl, G4, a, vr, rs, rfl, X4.gh, gA4, s4, ((hvr.mono I.x.gg).mono X13.gg).mono X4.gg, ok, fun G5 K5 u2 g2 X5 s5 gd2 ru2 => ⟨(by show 3 ≤ sizeLine; decide), fun tl ntl => ?_⟩⟩
            have gA5 := X5.nn _ _ s4.choose_spec.choose_spec.1 gA4
            refine ⟨a, tl, [v', u1, u2], rfl, upd_same, by simp, by simp, ne_src s5 ntl, Src.ne (H' := H) s5 (ne_src s5 ntl), fun j x b m ej so => ?_⟩
            obtain ⟨gx, gdx, rx⟩ : ∃ gx, Good rs gx ∧ Rp G5 x (fod gx) := by
              match j, ej with
              | 0, e => cases Option.some.inj e; exact ⟨_, so1.good, (v3.mono X4.gg).mono X5.gg⟩
              | 1, e => cases Option.some.inj e; exact ⟨_, gd1, ru1.mono X5.gg⟩
              | 2, e => cases Option.some.inj e; exact ⟨_, gd2, ru2⟩
              | n + 3, e => cases e
            have X6 := (((XL.trans X4).trans X5).newM (o := .lst [v', u1, u2]) ntl).mut (o := .lst [.int b, .int m]) gA5 (.inl aM)
            have s6 : Src (upd (upd K5 tl (.lst [v', u1, u2])) a (.lst [.int b, .int m])) a := Src.upd so
            revert X6 s6
            generalize upd (upd K5 tl (.lst [v', u1, u2])) a (.lst [.int b, .int m]) = K6
            intro X6 s6
            have eR6 : K6 R = some (.lst (rowsV g l)) := X6.hh _ _ (by simpa using nRa) I.eR
            have eS6 : K6 S = some (.lst zs) := X6.hh _ _ (by simpa using nSa) I.eS
            refine ⟨_, rfl, .inl ⟨rfl, _, SqL.of eR6⟩, _, rfl, _, rfl, l.length + 1, x, gx, rfl, hn4, rx.mono X6.gh, okF_of gdx ok, fun K7 s7 => ⟨R, _, _, rfl, rfl, s7 _ _ eR6, smallR, ?_⟩⟩
            have et : V.str (mkS (layL (l.length + 1) gx)) = nlV (rowT (l.length + 1) (.ly gx)) := by
              unfold nlV
              rw [rowT_ly]
            rw [et]
            refine ⟨_, rfl, (by show 2 ≤ sizeLine; decide), fun tp ntp => ?_⟩
            have nRtp : R ≠ tp := ne_of_none upd_same ntp
            have ntp7 : K7 tp = none := by rw [upd_ne nRtp.symm] at ntp; exact ntp
            rw [upd_comm nRtp]
            have X7 := X6.trans (Xt.same X6.gh s7)
            have X8 := X7.new (o := .tup [.str (Str.ofString "lay"), x]) ntp7
            have eS8 : (upd (upd K7 tp (.tup [.str (Str.ofString "lay"), x])) R (.lst (rowsV g l ++ [nlV (rowT (l.length + 1) (.ly gx))]))) S = some (.lst zs) := by
              rw [upd_ne nRS.symm]
              exact same_new ntp7 _ _ (s7 _ _ eS6)
            have s8 : Src (upd K7 tp (.tup [.str (Str.ofString "lay"), x])) a := Src.ne (H' := H) (s6.same s7) (ne_src (s6.same s7) ntp7)
            have rx8 := rx.mono (same_new (o := .tup [.str (Str.ofString "lay"), x]) (X7.gh.free ntp7))
            refine ⟨_, rfl, .inl ⟨rfl, _, SqL.of eS8⟩, _, rfl, _, rfl, (by show 2 ≤ sizeLine; decide), fun ts nts' => ?_⟩
            have nSts : S ≠ ts := ne_of_none eS8 nts'
            refine ⟨S, zs, .ref ts, rfl, rfl, by rw [upd_ne nSts]; exact eS8, smallS, ?_⟩
            exact ⟨_, _, _, _, _, _, _, _, _, _, _, rfl, I.step (r := .ly gx) (w6' := x) X8 s8 nR0 nS0 nRS nSa nRa gdx (I.v.mono X8.gg) (.tup upd_same (.cons (.str _) (.cons rx8 .nil))) (fun pn h => by cases Option.some.inj h; exact rx8) nts', by rw [List.length_append, li]; rfl⟩
          · have eh : (!(hs.map hd).isEmpty) = true := by
              cases hs with
              | nil => exact absurd rfl hh
              | cons _ _ => rfl
            refine ifT_of eh ?_
            have XL := X13.trans (Xt.same (M := [a]) X3.gh sK)
            have eRx := sK _ _ eR3
            refine ⟨_, rfl, .inl ⟨rfl, _, SqL.of eRx⟩, _, rfl, _, rfl, l.length + 1, RR, zr, hs, rfl, hn4, sK _ _ eRR, rzr.mono XL.gh, okH_of hok so1.good ok (by omega), fun K4 s4 => ⟨R, _, _, rfl, rfl, s4 _ _ eRx, smallR, ?_⟩⟩
            have et : V.str (mkS (openL (l.length + 1) hs)) = nlV (rowT (l.length + 1) (.op hs)) := by
              unfold nlV
              rw [rowT_op]
            rw [et]
            have nRRR : RR ≠ R := by
              rintro rfl
              have z := Xa.hh _ _ (by simpa using nRa) I.eR
              rw [nRR] at z
              cases z
            have eRR4 : (upd K4 R (.lst (rowsV g l ++ [nlV (rowT (l.length + 1) (.op hs))]))) RR = some (.lst zr) := by
              rw [upd_ne nRRR]
              exact s4 _ _ (sK _ _ eRR)
            refine ⟨_, rfl, RR, _, rfl, .inl ⟨SqL.of eRR4, fun t1 nt1 => ⟨(by show 2 ≤ sizeLine; decide), fun t2 nt2 => ⟨_, rfl, _, _, rfl, ?_⟩⟩⟩⟩
            have nRt1 : R ≠ t1 := ne_of_none upd_same nt1
            have nt1' : K4 t1 = none := by rw [upd_ne nRt1.symm] at nt1; exact nt1
            rw [upd_comm nRt1] at nt2 ⊢
            have nRt2 : R ≠ t2 := ne_of_none upd_same nt2
            have nt2' : (upd K4 t1 (.tup zr)) t2 = none := by rw [upd_ne nRt2.symm] at nt2; exact nt2
            rw [upd_comm nRt2]
            have X7 := XL.trans (Xt.same XL.gh s4)
            have X8 := X7.new (o := .tup zr) nt1'
            have X9 := X8.new (o := .tup [.str (Str.ofString "open"), .ref t1]) nt2'
            have sg1 := same_new (o := .tup zr) (X7.gh.free nt1')
            have sg2 := same_new (o := .tup [.str (Str.ofString "open"), .ref t1]) (X8.gh.free nt2')
            have sK4 : Src K4 a := (s3.same sK).same s4
            have s8 := Src.ne (o := .tup zr) (H' := H) sK4 (ne_src sK4 nt1')
            have s9 := Src.ne (o := .tup [.str (Str.ofString "open"), .ref t1]) (H' := H) s8 (ne_src s8 nt2')
            have eS8 : (upd (upd (upd K4 t1 (.tup zr)) t2 (.tup [.str (Str.ofString "open"), .ref t1])) R (.lst (rowsV g l ++ [nlV (rowT (l.length + 1) (.op hs))]))) S = some (.lst zs) := by
              rw [upd_ne nRS.symm]
              exact same_new nt2' _ _ (same_new nt1' _ _ (s4 _ _ (sK _ _ eS3)))
            refine ⟨_, rfl, .inl ⟨rfl, _, SqL.of eS8⟩, _, rfl, _, rfl, (by show 2 ≤ sizeLine; decide), fun ts nts' => ?_⟩
            have nSts : S ≠ ts := ne_of_none eS8 nts'
            refine ⟨S, zs, .ref ts, rfl, rfl, by rw [upd_ne nSts]; exact eS8, smallS, ?_⟩
            refine ⟨_, _, _, _, _, _, _, _, _, _, _, rfl, I.step (r := .op hs) (w6' := u) X9 s9 nR0 nS0 nRS nSa nRa ⟨hp, hh, by omega, hok⟩ (I.v.mono X9.gg) ?_ (fun pn h => by cases Option.some.inj h; exact (ru.mono sg1).mono sg2) nts', by rw [List.length_append, li]; rfl⟩
            exact .tup upd_same (.cons (.str _) (.cons (.tup (sg2 _ _ upd_same) ((rzr.mono sg1).mono sg2)) .nil))
        · refine iteDF (by omega) (iteF ?_)
          obtain ⟨Kx, eKx⟩ : ∃ Kx, Kx = K3 := ⟨_, rfl⟩
          have sK : Same K3 Kx := by rw [eKx]; exact Same.refl _
          rw [← eKx]
          have XL := X13.trans (Xt.same (M := [a]) X3.gh sK)
          have sL : Src Kx a := s3.same sK
          refine ⟨_, rfl, _, rfl, _, rfl, _, rfl, G3, a, vr, rs, rfl, XL.gh, gA3, sL, (hvr.mono I.x.gg).mono X13.gg, ok, fun G4 K4 u1 g1 X4 s4 gd1 ru1 => ?_⟩
          have gA4 := X4.nn _ _ sL.choose_spec.choose_spec.1 gA3
          refine ⟨_, rfl, _, rfl, G4, a, vr, rs, rfl, X4.gh, gA4, s4, ((hvr.mono I.x.gg).mono X13.gg).mono X4.gg, ok, fun G5 K5 u2 g2 X5 s5 gd2 ru2 => ⟨(by show 3 ≤ sizeLine; decide), fun tl ntl => ?_⟩⟩
          have gA5 := X5.nn _ _ s4.choose_spec.choose_spec.1 gA4
          refine ⟨a, tl, [v', u1, u2], rfl, upd_same, by simp, by simp, ne_src s5 ntl, Src.ne (H' := H) s5 (ne_src s5 ntl), fun j x b m ej so => ?_⟩
          obtain ⟨gx, gdx, rx⟩ : ∃ gx, Good rs gx ∧ Rp G5 x (fod gx) := by
            match j, ej with
            | 0, e => cases Option.some.inj e; exact ⟨_, so1.good, (v3.mono X4.gg).mono X5.gg⟩
            | 1, e => cases Option.some.inj e; exact ⟨_, gd1, ru1.mono X5.gg⟩
            | 2, e => cases Option.some.inj e; exact ⟨_, gd2, ru2⟩
            | n + 3, e => cases e
          have X6 := (((XL.trans X4).trans X5).newM (o := .lst [v', u1, u2]) ntl).mut (o := .lst [.int b, .int m]) gA5 (.inl aM)
          have s6 : Src (upd (upd K5 tl (.lst [v', u1, u2])) a (.lst [.int b, .int m])) a := Src.upd so
          revert X6 s6
          generalize upd (upd K5 tl (.lst [v', u1, u2])) a (.lst [.int b, .int m]) = K6
          intro X6 s6
          have eR6 : K6 R = some (.lst (rowsV g l)) := X6.hh _ _ (by simpa using nRa) I.eR
          have eS6 : K6 S = some (.lst zs) := X6.hh _ _ (by simpa using nSa) I.eS
          refine ⟨_, rfl, .inl ⟨rfl, _, SqL.of eR6⟩, _, rfl, _, rfl, l.length + 1, x, gx, rfl, hn4, rx.mono X6.gh, okF_of gdx ok, fun K7 s7 => ⟨R, _, _, rfl, rfl, s7 _ _ eR6, smallR, ?_⟩⟩
          have et : V.str (mkS (layL (l.length + 1) gx)) = nlV (rowT (l.length + 1) (.ly gx)) := by
            unfold nlV
            rw [rowT_ly]
          rw [et]
          refine ⟨_, rfl, (by show 2 ≤ sizeLine; decide), fun tp ntp => ?_⟩
          have nRtp : R ≠ tp := ne_of_none upd_same ntp
          have ntp7 : K7 tp = none := by rw [upd_ne nRtp.symm] at ntp; exact ntp
          rw [upd_comm nRtp]
          have X7 := X6.trans (Xt.same X6.gh s7)
          have X8 := X7.new (o := .tup [.str (Str.ofString "lay"), x]) ntp7
          have eS8 : (upd (upd K7 tp (.tup [.str (Str.ofString "lay"), x])) R (.lst (rowsV g l ++ [nlV (rowT (l.length + 1) (.ly gx))]))) S = some (.lst zs) := by
            rw [upd_ne nRS.symm]
            exact same_new ntp7 _ _ (s7 _ _ eS6)
          have s8 : Src (upd K7 tp (.tup [.str (Str.ofString "lay"), x])) a := Src.ne (H' := H) (s6.same s7) (ne_src (s6.same s7) ntp7)
          have rx8 := rx.mono (same_new (o := .tup [.str (Str.ofString "lay"), x]) (X7.gh.free ntp7))
          refine ⟨_, rfl, .inl ⟨rfl, _, SqL.of eS8⟩, _, rfl, _, rfl, (by show 2 ≤ sizeLine; decide), fun ts nts' => ?_⟩
          have nSts : S ≠ ts := ne_of_none eS8 nts'
          refine ⟨S, zs, .ref ts, rfl, rfl, by rw [upd_ne nSts]; exact eS8, smallS, ?_⟩
          exact ⟨_, _, _, _, _, _, _, _, _, _, _, rfl, I.step (r := .ly gx) (w6' := x) X8 s8 nR0 nS0 nRS nSa nRa gdx (I.v.mono X8.gg) (.tup upd_same (.cons (.str _) (.cons rx8 .nil))) (fun pn h => by cases Option.some.inj h; exact rx8) nts', by rw [List.length_append, li]; rfl⟩
    · rintro σ K1 ⟨G1, l, zs, v', w5, w6, y7, y8, y9, y10, y11, rfl, I, li⟩
      refine ⟨_, rfl, _, rfl, (by show 2 ≤ sizeLine; decide), fun t nt => ?_⟩
      have gt := I.x.gh.free nt
      have sg := same_new (o := .tup [.ref R, .ref S]) gt
      exact q _ _ t R S zs l (I.x.new nt) (Src.ne (H' := H) I.s (ne_src I.s nt)) upd_same nRa nSa (same_new nt _ _ I.eR) (same_new nt _ _ I.eS) (I.rz.mono sg) I.j (by omega)
end
end KJ
set_option maxHeartbeats 4000000
namespace KJ
open PySem PySem.Spec PyProof.Rows L2 TL
theorem cutS_to (l : List Nat) (n : Nat) : cutS (mkS l) none (some (n : Int)) = mkS (l.take n) := by
  unfold cutS
  rw [HT.sIx_none, HT.sIx_nat, mkS_len]
  show mkS ((l.drop 0).take (min n l.length - 0)) = _
  rw [List.drop_zero, Nat.sub_zero]
  congr 1
  by_cases h : n ≤ l.length
  · rw [Nat.min_eq_left h]
  · rw [Nat.min_eq_right (by omega), List.take_length, List.take_of_length_le (by omega)]
theorem cutS_from (l : List Nat) (n : Nat) (h : n ≤ l.length) : cutS (mkS l) (some (n : Int)) none = mkS (l.drop n) := by
  unfold cutS
  rw [HT.sIx_none, HT.sIx_nat, mkS_len]
  show mkS ((l.drop (min n l.length)).take (l.length - min n l.length)) = _
  rw [Nat.min_eq_left h, List.take_of_length_le (by rw [List.length_drop]; exact Nat.le_refl _)]
/-! sizes, beginnings -/
def pre (ts : List (List Nat)) (k : Nat) : List Nat := ((ts.take k).map (· ++ [10])).flatten
theorem pre_zero (ts : List (List Nat)) : pre ts 0 = [] := rfl
theorem pre_succ {ts : List (List Nat)} {k : Nat} {t : List Nat} (e : ts[k]? = some t) : pre ts (k + 1) = pre ts k ++ (t ++ [10]) := by
  unfold pre
  rw [List.take_add_one, e, List.map_append, List.flatten_append]
  show _ ++ [t ++ [10]].flatten = _
  rw [List.flatten_cons, List.flatten_nil, List.append_nil]
theorem pre_all (ts : List (List Nat)) : pre ts ts.length = (ts.map (· ++ [10])).flatten := by unfold pre; rw [List.take_length]
theorem pre_split {ts : List (List Nat)} {k : Nat} {t : List Nat} (e : ts[k]? = some t) : ∃ rest, (ts.map (· ++ [10])).flatten = pre ts k ++ (t ++ 10 :: rest) := by
  have hk := (List.getElem?_eq_some_iff.mp e).1
  refine ⟨((ts.drop (k + 1)).map (· ++ [10])).flatten, ?_⟩
  have z : ts = ts.take k ++ t :: ts.drop (k + 1) := by
    have z1 := List.take_append_drop k ts
    have z2 : ts.drop k = t :: ts.drop (k + 1) := by
      rw [List.drop_eq_getElem_cons hk]
      have z3 := List.getElem?_eq_some_iff.mp e
      obtain ⟨_, z4⟩ := z3
      rw [z4]
    rw [z2] at z1
    exact z1.symm
  have z5 : (ts.map (· ++ [10])).flatten = ((ts.take k ++ t :: ts.drop (k + 1)).map (· ++ [10])).flatten := congrArg (fun ts : List (List Nat) => (ts.map (· ++ [10])).flatten) z
  rw [z5, List.map_append, List.flatten_append, List.map_cons, List.flatten_cons]
  unfold pre
  simp
/-- what a beginning of so many signs is -/
theorem begin_is {ts : List (List Nat)} {k n : Nat} (hf : ∀ t ∈ ts, 10 ∉ t ∧ ∀ s ∈ t, s ≤ 122) (h1 : (pre ts k).length ≤ n) (h2 : k = ts.length ∨ ∃ t, ts[k]? = some t ∧ n ≤ (pre ts k).length + t.length) :
    ∃ torn, ((ts.map (· ++ [10])).flatten).take n = pre ts k ++ torn ∧ 10 ∉ torn ∧ ∀ s ∈ torn, s ≤ 122 := by
  rcases h2 with rfl | ⟨t, e, h2⟩
  · refine ⟨[], ?_, List.not_mem_nil, fun s h => absurd h List.not_mem_nil⟩
    rw [List.append_nil, ← pre_all, List.take_of_length_le h1]
  · obtain ⟨rest, er⟩ := pre_split e
    obtain ⟨f1, f2⟩ := hf t (List.mem_of_getElem? e)
    refine ⟨t.take (n - (pre ts k).length), ?_, fun h => f1 (List.mem_of_mem_take h), fun s h => f2 s (List.mem_of_mem_take h)⟩
    have e1 : (pre ts k).take n = pre ts k := List.take_of_length_le h1
    have e2 : n - (pre ts k).length - t.length = 0 := by omega
    rw [er, List.take_append, e1, List.take_append, e2, List.take_zero, List.append_nil]
theorem rowsT_take : ∀ (l : List Row) (m k : Nat), (rowsT m l).take k = rowsT m (l.take k)
  | [], m, k => by rw [List.take_nil]; show List.take k [] = []; rw [List.take_nil]
  | r :: l, m, 0 => rfl
  | r :: l, m, k + 1 => congrArg (rowT m r :: ·) (rowsT_take l (m + 1) k)
theorem pre_join (g : Forest) (l : List Row) (k : Nat) (torn : List Nat) : pre (jT g l) (k + 1) ++ torn = joinL [10] (jT g (l.take k) ++ [torn]) := by
  rw [joinL_nl]
  unfold pre jT
  rw [List.take_succ_cons, rowsT_take]
/-! sizes of rows -/
theorem rowT_size {rs : List Nat} {s : Sta} {n : Nat} {r : Row} (ok : RsOk rs) (so : StaOk rs s) (ro : rowOk rs s r) (hn : n < 10000) : (rowT n r).length ≤ 320 := by
  have h4 := num_len hn
  cases r with
  | shut =>
    show (joinL [32] [numL n, wShut]).length ≤ _
    rw [joinL_sp, List.length_append]
    show _ + 5 ≤ _
    omega
  | op hs =>
    have z := spH_len (okH_of ro.2.2.2 so.good ok ro.2.2.1)
    show (joinL [32] (numL n :: wOpen :: hs.map hwL)).length ≤ _
    rw [joinL_sp, spL_cons, List.length_append, List.length_cons, List.length_append]
    show _ + (4 + _ + 1) ≤ _
    omega
  | ly g =>
    have z := spF_len (okF_of (show Good rs g from ro) ok)
    show (joinL [32] (numL n :: wLay :: g.map pwL)).length ≤ _
    rw [joinL_sp, spL_cons, List.length_append, List.length_cons, List.length_append]
    show _ + (3 + _ + 1) ≤ _
    omega
theorem baseT_size {rs : List Nat} {g : Forest} (ok : RsOk rs) (gd : Good rs g) : (baseT g).length ≤ 320 := by
  have z := spF_len (okF_of gd ok)
  show (joinL [32] ([48] :: wBase :: g.map pwL)).length ≤ _
  rw [joinL_sp, spL_cons, List.length_append]
  show 1 + ((wBase ++ spL (g.map pwL)).length + 1) ≤ _
  rw [List.length_append]
  show 1 + (4 + _ + 1) ≤ _
  omega
theorem rowsT_size {rs : List Nat} (ok : RsOk rs) : ∀ (l : List Row) (s : Sta) (k : Nat), StaOk rs s → jOk rs s l → k + l.length < 10000 → ∀ p ∈ rowsT k l, p.length ≤ 320
  | [], _, _, _, _, _, p, h => absurd h List.not_mem_nil
  | r :: l, s, k, so, j, hk, p, h => by
    have h' : p ∈ rowT k r :: rowsT (k + 1) l := h
    rw [List.length_cons] at hk
    rcases List.mem_cons.mp h' with rfl | h
    · exact rowT_size ok so j.1 (by omega)
    · exact rowsT_size ok l _ (k + 1) (so.step j.1) j.2 (by omega) p h
theorem jT_size {rs : List Nat} {g : Forest} {l : List Row} (ok : RsOk rs) (gd : Good rs g) (j : jOk rs ⟨g, none⟩ l) (hl : l.length < 9000) : ∀ p ∈ jT g l, p.length ≤ 320 := by
  intro p hp
  have hp' : p ∈ baseT g :: rowsT 1 l := hp
  rcases List.mem_cons.mp hp' with rfl | hp
  · exact baseT_size ok gd
  · exact rowsT_size ok l ⟨g, none⟩ 1 ⟨gd, trivial⟩ j (by omega) p hp
theorem flat_size : ∀ {ts : List (List Nat)}, (∀ t ∈ ts, t.length ≤ 320) → ((ts.map (· ++ [10])).flatten).length ≤ 321 * ts.length
  | [], _ => Nat.zero_le _
  | t :: ts, h => by
    have ih := flat_size (ts := ts) fun u hu => h u (List.mem_cons_of_mem _ hu)
    have h0 := h t (List.mem_cons_self ..)
    rw [List.map_cons, List.flatten_cons, List.length_append, List.length_append, List.length_singleton, List.length_cons]
    omega
theorem jT_len (g : Forest) (l : List Row) : (jT g l).length = l.length + 1 := by
  show (rowsT 1 l).length + 1 = _
  rw [rowsT_len]
theorem jT_ok (g : Forest) (l : List Row) : ∀ t ∈ jT g l, 10 ∉ t ∧ ∀ s ∈ t, s ≤ 122 := fun t ht => ⟨jT_free (by unfold sgn; omega) t ht, fun s hs => Nat.le_of_not_lt fun h => jT_free (g := g) (l := l) (by unfold sgn; omega) t ht hs⟩
/-! the told data may be compared -/
theorem strOk_of {l : List Nat} (h : ∀ s ∈ l, s ≤ 122) : PyData.strOk (mkS l) = true := by
  show l.toArray.all (· < 0x110000) = true
  rw [List.all_toArray, List.all_eq_true]
  intro s hs
  have := h s hs
  exact decide_eq_true (by omega)
theorem lo_pnd (p : Option Pend) : lo 4 (pnd p) := match p with
  | none => lo.non
  | some (.op hs) => lo.tup (k := 3) (.cons (lo.str (by decide +kernel)) (.cons (lo.tup (hds_lo hs)) .nil))
  | some (.ly g) => lo.tup (k := 3) (.cons (lo.str (by decide +kernel)) (.cons ((lo.fod g).up (by decide)) .nil))
theorem lo_told (g : Forest) (l : List Row) (torn : List Nat) (h : ∀ s ∈ torn, s ≤ 122) : lo 5 (toldD g l torn) :=
  lo.tup (k := 4) (.cons .int (.cons ((lo.fod _).up (by decide)) (.cons (lo_pnd _) (.cons (.str (strOk_of h)) .nil))))
theorem quad_inv {H : Hp} {v : V} {d1 d2 d3 d4 : PyData} (h : Rp H v (.tuple [d1, d2, d3, d4])) : ∃ a x1 x2 x3 x4, v = .ref a ∧ H a = some (.tup [x1, x2, x3, x4]) ∧ Rp H x1 d1 ∧ Rp H x2 d2 ∧ Rp H x3 d3 ∧ Rp H x4 d4 := by
  obtain ⟨a, xs, rfl, ha, r⟩ := Rp.tup_inv h
  cases r with
  | cons r1 r =>
    cases r with
    | cons r2 r =>
      cases r with
      | cons r3 r =>
        cases r with
        | cons r4 r =>
          cases r
          exact ⟨a, _, _, _, _, rfl, ha, r1, r2, r3, r4⟩
section
variable {P : Program} {w : World} {K : PySem.W.Frag} {mg : Str → Option Value} {base : Heap} {t1 t2 : Tok} {f : Addr} {fd : FuncData}
/-! ### _law_is_told -/
def sp_is_told : Sp := fun vs H Q _ => ∃ (u v : V) (g : Forest) (l : List Row) (torn : List Nat), vs = [u, v] ∧ Rp H u (toldD g l torn) ∧ Rp H v (toldD g l torn) ∧ (∀ s ∈ torn, s ≤ 122) ∧ Q (.bl true) H
theorem ok_law_is_told (T : Txt mg t1 t2) (c_law_number : Cal P w K mg base 1 "_law_number" sp_number) (F : FunT K "_law_is_told" s_law_is_told f fd) : FnOk P w K mg base CX0 2 f fd ["_law_told", "_law_due"] sp_is_told := by
  refine F.ok sc_law_is_told (fun vs H Q E h => ?_) (fun cdv A outer s H vs Q E hr h => ?_)
  · obtain ⟨u, v, g, l, torn, rfl, _⟩ := h
    rfl
  · have hu64 := hu64_of hr
    obtain ⟨u, v, g, l, torn, rfl, hu, hv, ht, q⟩ := h
    have L := lo_told g l torn ht
    have du := hu.dp (K := K)
    have dv := hv.dp (K := K)
    obtain ⟨a, x1, x2, x3, x4, rfl, ha, r1, r2, r3, r4⟩ := quad_inv hu
    obtain ⟨b, y1, y2, y3, y4, rfl, hb, q1, q2, q3, q4⟩ := quad_inv hv
    obtain rfl := r1.int_inv
    obtain rfl := q1.int_inv
    obtain rfl := r4.str_inv
    obtain ⟨c, xs, rfl, hc, _⟩ := Rp.tup_inv r2
    refine ⟨_, (pss_cons (ps_if (PW.pt (pw_or (pt_not (pt_val (pe_callB call_isi (by rfl) T.isinstance (by decide +kernel) (pa_cons (pv 0) (pa_cons (pe_bltn (v := .ty "tuple") (u := .type "tuple") (by rfl) T.tuple (by decide +kernel) rfl) pa_nil))))) (pw_or (pt_cmpR op_ne (pe_callB call_len_seq (by rfl) T.len (by decide +kernel) (pa_cons (pv 0) pa_nil)) pe_int (nomark _)) (pw_or1 (pt_cmpR (r := rNeD K) (op_neD hu64) (pv 0) (pv 1) (nomark _)))))) (pss_one (ps_ret pe_bl)) pss_nil)
      (pss_cons (ps_if (PW.pt (pw_or (pt_not (pt_val (pe_c c_law_number hr (by decide) rfl (pa_cons (pe_ix (r := rIxT K) ix_tup (pv 0) pe_int (fun _ _ => rfl)) (pa_cons (pe_op op_add (pe_ix (r := rIxT K) ix_tup (pv 1) pe_int (fun _ _ => rfl)) pe_int) pa_nil))))) (pw_or (pt_not (pt_val (pe_callB call_isi (by rfl) T.isinstance (by decide +kernel) (pa_cons (pe_ix (r := rIxT K) ix_tup (pv 0) pe_int (fun _ _ => rfl)) (pa_cons (pe_bltn (v := .ty "tuple") (u := .type "tuple") (by rfl) T.tuple (by decide +kernel) rfl) pa_nil))))) (pw_or1 (pt_not (pt_val (pe_callB call_isi (by rfl) T.isinstance (by decide +kernel) (pa_cons (pe_ix (r := rIxT K) ix_tup (pv 0) pe_int (fun _ _ => rfl)) (pa_cons (pe_bltn (v := .ty "str") (u := .type "str") (by rfl) T.str (by decide +kernel) rfl) pa_nil))))))))) (pss_one (ps_ret pe_bl)) pss_nil)
      (pss_one (ps_ret (pe_or (pe_cmpR op_isN (pe_ix (r := rIxT K) ix_tup (pv 0) pe_int (fun _ _ => rfl)) pe_non (nomark _)) (pe_one (pe_and (pe_callB call_isi (by rfl) T.isinstance (by decide +kernel) (pa_cons (pe_ix (r := rIxT K) ix_tup (pv 0) pe_int (fun _ _ => rfl)) (pa_cons (pe_bltn (v := .ty "tuple") (u := .type "tuple") (by rfl) T.tuple (by decide +kernel) rfl) pa_nil))) (pe_one (pe_callB call_isi (by rfl) T.isinstance (by decide +kernel) (pa_cons (pe_ix (r := rIxT K) ix_tup (pe_ix (r := rIxT K) ix_tup (pv 0) pe_int (fun _ _ => rfl)) pe_int (fun _ _ => rfl)) (pa_cons (pe_bltn (v := .ty "tuple") (u := .type "tuple") (by rfl) T.tuple (by decide +kernel) rfl) pa_nil))))))))))), ?_⟩
    refine ⟨_, rfl, _, .ty "tuple", .type "tuple", .type "tuple", true, rfl, .ty _, .base (.tup ha), kit_ty (by decide +kernel), true, rfl, iteF ?_⟩
    refine ⟨_, rfl, a, _, rfl, .inr (SqT.of ha), rfl, _, rfl, iteNS rfl ?_⟩
    refine ⟨_, rfl, _, rfl, _, _, du, dv, L.shaped (by decide), L.shaped (by decide), _, rfl, ?_⟩
    rw [SeqAt.eqv_refl _ L.1]
    refine iteF ?_
    refine ⟨_, rfl, a, _, 0, _, rfl, rfl, SqT.of ha, atI_nat (j := 0) rfl, _, rfl, b, _, 0, _, rfl, rfl, SqT.of hb, atI_nat (j := 0) rfl, _, _, rfl, rfl, l.length + 1, l.length + 2, rfl, by omega, true, rfl, iteF ?_⟩
    refine ⟨_, rfl, a, _, 1, _, rfl, rfl, SqT.of ha, atI_nat (j := 1) rfl, _, .ty "tuple", .type "tuple", .type "tuple", true, rfl, .ty _, .base (.tup hc), kit_ty (by decide +kernel), true, rfl, iteF ?_⟩
    refine ⟨_, rfl, a, _, 3, _, rfl, rfl, SqT.of ha, atI_nat (j := 3) rfl, .str (mkS torn), .ty "str", .type "str", .type "str", true, rfl, .ty _, .base (.str _), kit_ty (by decide +kernel), true, rfl, iteF ?_⟩
    refine ⟨_, rfl, a, _, 2, _, rfl, rfl, SqT.of ha, atI_nat (j := 2) rfl, rfl, _, rfl, ?_⟩
    cases hp : (stF ⟨g, none⟩ l).p with
    | none =>
      rw [hp] at r3
      cases Rp.non_inv r3
      refine iteD rfl ?_
      exact q
    | some pn =>
      rw [hp] at r3
      obtain ⟨d, z1, z2, e3, hd3, h2⟩ : ∃ d z1 z2, x3 = .ref d ∧ H d = some (.tup [z1, z2]) ∧ ∃ e ys, z2 = .ref e ∧ H e = some (.tup ys) := by
        cases pn with
        | op hs =>
          obtain ⟨d, z1, z2, e, h, _, k⟩ := pair_inv (d := .str (Str.ofString "open")) (e := .tuple (hs.map hd)) r3
          obtain ⟨e', ys, k1, k2, _⟩ := Rp.tup_inv k
          exact ⟨d, z1, z2, e, h, e', ys, k1, k2⟩
        | ly t =>
          obtain ⟨d, z1, z2, e, h, _, k⟩ := pair_inv (d := .str (Str.ofString "lay")) (e := fod t) r3
          obtain ⟨e', ys, k1, k2, _⟩ := Rp.tup_inv k
          exact ⟨d, z1, z2, e, h, e', ys, k1, k2⟩
      obtain ⟨e, ys, rfl, he⟩ := h2
      subst e3
      refine iteDF (by intro z; cases z) ?_
      refine ⟨_, rfl, a, _, 2, _, rfl, rfl, SqT.of ha, atI_nat (j := 2) rfl, _, .ty "tuple", .type "tuple", .type "tuple", true, rfl, .ty _, .base (.tup hd3), kit_ty (by decide +kernel), true, rfl, iteT ?_⟩
      refine ⟨_, rfl, a, _, 2, _, rfl, rfl, SqT.of ha, atI_nat (j := 2) rfl, d, _, 1, _, rfl, rfl, SqT.of hd3, atI_nat (j := 1) rfl, _, .ty "tuple", .type "tuple", .type "tuple", true, rfl, .ty _, .base (.tup he), kit_ty (by decide +kernel), ?_⟩
      exact q
end
end KJ
set_option maxHeartbeats 4000000
namespace KJ
open PySem PySem.Spec PyProof.Rows L2 TL
structure JF (P : Program) (w : World) (K : PySem.W.Frag) (mg : Str → Option Value) (base : Heap) (C : Addr) : Prop where
  ex : ∃ (f : Addr) (fd : FuncData), FnOk P w K mg base (L2.CX P w) 7 f fd ["rooms", "text"] (sp_read_journal C) ∧ mg "read_journal" = some (.ref f) ∧ PySem.W.keepIn K (.ref f) = true ∧ Binds K fd ["rooms", "text"] []
structure BJ (K : PySem.W.Frag) (mg : Str → Option Value) (C CT : Addr) : Prop where
  gC : mg "BadJournal" = some (.ref C)
  mCT : mg "BadThing" = some (.ref CT)
  xf : XfC K C
  hno : PySem.W.findIn K (.ref C) "what" = some none
  ec : ExcC K C
  exm : PySem.W.exmOne K (.ref C) (.ref C) = some true
  kit : PySem.W.kitOne K (.ref C) (.ref CT) = some false
theorem for_list2 {K : PySem.W.Frag} {a : Addr} {xs : List V} {g : TG} {tb : TS} {D : Ends} {σ : L2.St} {H : Hp} (Pv : Nat → L2.St → Hp → Prop) (Af : L2.St → Hp → Prop) (ha : ∀ σ H, Af σ H → D.nx σ H) (h0 : Pv 0 σ H) (hl : ∀ i σ H, i ≤ xs.length → Pv i σ H → SqL K H a xs)
    (hs : (∀ σ H, Af σ H → D.nx σ H) → ∀ i x σ H, xs[i]? = some x → Pv i σ H → g x σ H fun σ2 H2 => tb { D with nx := Pv (i + 1), ct := Pv (i + 1), bk := D.nx } σ2 H2) (hd : ∀ σ H, Pv xs.length σ H → Af σ H) :
    ∃ W : Nat → Nat → L2.St → Hp → Prop, (∃ m, W 0 m σ H) ∧ ∀ i m σ H, W i m σ H →
      ((Itl K a).stop i H ∧ D.nx σ H) ∨ ((Itl K a).go i H ∧ ∃ N : L2.St → Hp → Prop, (∀ σ' H', N σ' H' → ∃ m', m' < m ∧ W (i + 1) m' σ' H') ∧ ∀ x H', (Itl K a).yld i H x H' → g x σ H' fun σ2 H2 => tb { D with nx := N, ct := N, bk := D.nx } σ2 H2) :=
  for_list Pv h0 hl (hs ha) fun σ H p => ha _ _ (hd _ _ p)
theorem sum_flat : ∀ ls : List (List Nat), ((ls.map mkS).map (·.length)).sum = ls.flatten.length
  | [] => rfl
  | l :: r => by
    rw [List.map_cons, List.map_cons, List.sum_cons, sum_flat r, mkS_len, List.flatten_cons, List.length_append]
section
variable {P : Program} {w : World} {K : PySem.W.Frag} {mg : Str → Option Value} {base : Heap} {t1 t2 : Tok} {f : Addr} {fd : FuncData}
/-! ### _law_read_right -/
def sp_read_right : Sp := fun vs H Q _ => ∃ (vr : V) (R S : Addr) (rs : List Nat) (g : Forest) (l : List Row) (zs : List V) (n : Nat), vs = [vr, .ref R, .ref S, .int (n : Int)] ∧ Rp H vr (rd rs) ∧ RsOk rs ∧ Good rs g ∧ jOk rs ⟨g, none⟩ l ∧ l.length ≤ 200 ∧
  H R = some (.lst (rowsV g l)) ∧ H S = some (.lst zs) ∧ RpA H zs (stsL ⟨g, none⟩ l) ∧ ∀ H', Same H H' → Q (.bl true) H'
theorem lit_read : Str.ofString "0 base - 0.0\n1" = mkS (joinL [10] (jT [none, some (0, 0)] [] ++ [[49]])) := by decide +kernel
theorem lit_1 : Str.ofString "1" = mkS [49] := by decide +kernel
theorem good10 : Good [1, 0] [none, some (0, 0)] where
  len := rfl
  ok := fun x p e => by
    match x, e with
    | 0, e => cases Option.some.inj e; trivial
    | 1, e => cases Option.some.inj e; exact ⟨by decide, 1, rfl, by decide⟩
    | n + 2, e => cases e
  anc := fun x hx => by
    match x, hx with
    | 0, _ => exact ⟨[], .root rfl⟩
    | 1, _ => exact ⟨[0], .step rfl (.root rfl)⟩
    | n + 2, h => exact absurd (show n + 2 < 2 from h) (by omega)
theorem ok_law_read_right {C CT : Addr} (T : Txt mg t1 t2) (J : JF P w K mg base C) (B : BJ K mg C CT) (c_law_is_told : Cal P w K mg base 2 "_law_is_told" sp_is_told) (F : FunT K "_law_read_right" s_law_read_right f fd) :
    FnOk P w K mg base CX0 8 f fd ["_law_rooms_here", "_law_rows", "_law_states", "_law_at"] sp_read_right := by
  refine F.ok sc_law_read_right (fun vs H Q E h => ?_) (fun cdv A outer s H vs Q E hr h => ?_)
  · obtain ⟨vr, R, S, rs, g, l, zs, n, rfl, _⟩ := h
    rfl
  · have hu64 := hu64_of hr
    obtain ⟨fJ, fdJ, GJ, mJ, kJ, bJ⟩ := J.ex
    obtain ⟨vr, R, S, rs, g, l, zs, n, rfl, hvr, ok, gd, jok, hl, eR, eS, rz, q⟩ := h
    have lt := jT_len g l
    have hfull : (((jT g l).map (· ++ [10])).flatten).length ≤ 90000 := by
      have z := flat_size (jT_size ok gd jok (by omega))
      rw [lt] at z
      omega
    refine ⟨_, (pss_cons (ps_set (i := 4) sc_law_read_right.nd rfl (Or.inl rfl) (pe_slice sl_str (pe_join pe_str (pv 1)) po_none (po_some (pv 3))))
      (pss_cons (ps_asg (pe_tup (pa_cons pe_int (pa_cons pe_int pa_nil))) (pg_tup rfl (pgs_cons (pg_name (i := 5) sc_law_read_right.nd rfl (Or.inl rfl)) (pgs_cons (pg_name (i := 6) sc_law_read_right.nd rfl (Or.inl rfl)) pgs_nil))))
      (pss_cons (ps_for PassesOwn.never rfl (pi_list (pv 1)) (pg_name (i := 7) sc_law_read_right.nd rfl (Or.inl rfl)) (pss_one (ps_if (pt_cmpR op_le (pe_op op_add (pv 6) (pe_callB call_len_str (by rfl) T.len (by decide +kernel) (pa_cons (pv 7) pa_nil))) (pv 3) (nomark _)) (pss_one (ps_par (i := 5) (j := 6) (by rfl) sc_law_read_right.nd rfl rfl (by decide) rfl rfl (pa_cons (pe_op op_add (pv 5) pe_int) (pa_cons (pe_op op_add (pv 6) (pe_callB call_len_str (by rfl) T.len (by decide +kernel) (pa_cons (pv 7) pa_nil))) pa_nil)) (by rfl))) (pss_one ps_break))))
      (pss_cons (ps_if (pt_cmpR op_eq (pv 5) pe_int (nomark _)) (pss_cons (ps_try_first (i := 8) rfl rfl sc_law_read_right.nd rfl rfl ⟨rfl, by decide, .inl B.gC⟩ (fun W pn xe tk po => (pss_one (ps_expr (pe_callS GJ (hr.mono (by decide)) rfl mJ kJ bJ (fun σ => passAt tk σ) (pa_cons (pv 0) (pa_cons (pv 4) pa_nil)))))) (fun a oe cls d pn hz hf => (pss_one (ps_ret (pe_and (pe_cmpR op_eq (pe_xf B.xf B.hno hz hf (pv 8)) pe_int (nomark _)) (pe_one (pe_not (pe_callB (call_isX B.ec hz hf) (by rfl) T.isinstance (by decide +kernel) (pa_cons (pv 8) (pa_cons (pe_glob (v := .ref CT) rfl B.mCT rfl) pa_nil))))))))))
      (pss_one (ps_ret pe_bl))) pss_nil)
      (pss_cons (ps_set (i := 9) sc_law_read_right.nd rfl (Or.inl rfl) (pe_tup (pa_cons (pv 5) (pa_cons (pe_ix (r := rIxT K) ix_tup (pe_ix (r := rIxL K) ix_list (pv 2) (pe_op op_sub (pv 5) pe_int) (fun _ _ => rfl)) pe_int (fun _ _ => rfl)) (pa_cons (pe_ix (r := rIxT K) ix_tup (pe_ix (r := rIxL K) ix_list (pv 2) (pe_op op_sub (pv 5) pe_int) (fun _ _ => rfl)) pe_int (fun _ _ => rfl)) (pa_cons (pe_slice sl_str (pv 4) (po_some (pv 6)) po_none) pa_nil))))))
      (pss_cons (ps_if (pt_not (pt_val (pe_c c_law_is_told hr (by decide) rfl (pa_cons (pe_call GJ (hr.mono (by decide)) rfl mJ kJ bJ .nil passL (pa_cons (pv 0) (pa_cons (pv 4) pa_nil))) (pa_cons (pv 9) pa_nil))))) (pss_one (ps_ret pe_bl)) pss_nil)
      (pss_cons (ps_if (pt_cmpR (r := rNeD K) (op_neD hu64) (pe_call GJ (hr.mono (by decide)) rfl mJ kJ bJ .nil passL (pa_cons (pe_tup (pa_cons pe_int (pa_cons pe_int pa_nil))) (pa_cons pe_str pa_nil))) (pe_tup (pa_cons pe_int (pa_cons (pe_tup (pa_cons pe_non (pa_cons (pe_tup (pa_cons pe_int (pa_cons pe_int pa_nil))) pa_nil))) (pa_cons pe_non (pa_cons pe_str pa_nil))))) (nomark _)) (pss_one (ps_ret pe_bl)) pss_nil)
      (pss_one (ps_ret (pe_c c_law_is_told hr (by decide) rfl (pa_cons (pe_call GJ (hr.mono (by decide)) rfl mJ kJ bJ .nil passL (pa_cons (pv 0) (pa_cons (pv 4) pa_nil))) (pa_cons (pv 9) pa_nil)))))))))))), ?_⟩
    refine ⟨⟨_, rfl⟩, _, rfl, _, R, ((jT g l).map (· ++ [10])).map mkS, rfl, rfl, .inl (SqL.of ?_), ?_, ?_⟩
    · rw [eR, List.map_map, List.map_map]
      rfl
    · have h2 : (Str.ofString "").length = 0 := by rw [lit_nil, mkS_len]; rfl
      rw [sum_flat, h2, Nat.mul_zero]
      exact len_le (by omega)
    rw [lit_nil, join_nil]
    refine ⟨_, rfl, (n : Int), rfl, _, rfl, by rw [mkS_len]; exact sz (by omega), ?_⟩
    rw [cutS_to]
    refine ⟨(by show 2 ≤ sizeLine; decide), fun tc ntc => ⟨tc, _, rfl, SqT.of upd_same, rfl, _, _, rfl, _, _, rfl, rfl, ?_⟩⟩
    have s1 : Same H (upd H tc (.tup [.int 0, .int 0])) := same_new ntc
    revert s1
    generalize upd H tc (.tup [.int 0, .int 0]) = H1
    intro s1
    refine ⟨_, rfl, R, rfl, ⟨_, SqL.of (s1 _ _ eR)⟩, for_list2 (xs := rowsV g l)
      (fun i σ H' => ∃ (y7 : Option V), σ = [some vr, some (.ref R), some (.ref S), some (.int (n : Int)), some (.str (mkS (((jT g l).map (· ++ [10])).flatten.take n))), some (.int (i : Int)), some (.int ((pre (jT g l) i).length : Int)), y7, none, none] ∧ Same H H' ∧ (pre (jT g l) i).length ≤ n)
      (fun σ H' => ∃ (k : Nat) (y7 : Option V), σ = [some vr, some (.ref R), some (.ref S), some (.int (n : Int)), some (.str (mkS (((jT g l).map (· ++ [10])).flatten.take n))), some (.int (k : Int)), some (.int ((pre (jT g l) k).length : Int)), y7, none, none] ∧ Same H H' ∧ k ≤ (jT g l).length ∧ (pre (jT g l) k).length ≤ n ∧ (k = (jT g l).length ∨ ∃ t, (jT g l)[k]? = some t ∧ n ≤ (pre (jT g l) k).length + t.length))
      ?_ ⟨none, rfl, s1, Nat.zero_le _⟩ (fun i σ H' _ h => ?_) ?_ ?_⟩
    · rintro σ H2 ⟨k, y7, rfl, s2, hk, hp, hor⟩
      obtain ⟨torn, et, nt, ht⟩ := begin_is (jT_ok g l) hp hor
      have htl : torn.length ≤ 90000 := by
        have z := congrArg List.length et
        rw [List.length_take, List.length_append] at z
        omega
      refine ⟨_, rfl, rfl, _, rfl, ?_⟩
      cases k with
      | zero =>
        refine iteD rfl ?_
        refine ⟨_, rfl, _, rfl, .inr ⟨vr, rs, torn, by rw [et]; rfl, hvr.mono s2, ok, nt, by omega, fun H3 d s3 nd ed => ⟨B.exm, fun a na => ?_⟩⟩⟩
        refine ⟨_, rfl, rfl, rfl, d, _, .int 0, rfl, ed, rfl, rfl, _, rfl, iteD rfl ⟨_, rfl, rfl, .ref CT, .ref CT, false, d, _, rfl, fun u h => h, rfl, ed, B.kit, false, rfl, ?_⟩⟩
        exact q _ (s2.trans s3)
      | succ k =>
        refine iteDF (by intro z; have := V.int.inj z; omega) ?_
        have hkl : k ≤ l.length := by omega
        have lk : (l.take k).length = k := by rw [List.length_take]; omega
        obtain ⟨z, ez, rz2⟩ := rz.get (stsL_at l ⟨g, none⟩ k hkl)
        obtain ⟨c, x, y, rfl, hc, rx, ry⟩ := pair_inv rz2
        have ei : ((k + 1 : Nat) : Int) - 1 = (k : Int) := by omega
        rw [et]
        refine ⟨_, rfl, _, rfl, _, rfl, _, _, rfl, rfl, S, _, _, _, rfl, rfl, SqL.of (s2 _ _ eS), (by rw [ei]; exact atI_nat ez), c, _, 0, _, rfl, rfl, SqT.of (s2 _ _ hc), atI_nat (j := 0) rfl,
          _, rfl, _, rfl, _, _, rfl, rfl, S, _, _, _, rfl, rfl, SqL.of (s2 _ _ eS), (by rw [ei]; exact atI_nat ez), c, _, 1, _, rfl, rfl, SqT.of (s2 _ _ hc), atI_nat (j := 1) rfl,
          _, rfl, _, rfl, ((pre (jT g l) (k + 1)).length : Int), rfl, _, rfl, ?_, ?_⟩
        · rw [mkS_len, List.length_append]
          have z := congrArg List.length et
          rw [List.length_take, List.length_append] at z
          exact sz (by omega)
        rw [cutS_from _ _ (by rw [List.length_append]; omega), List.drop_left]
        refine ⟨(by show 4 ≤ sizeLine; decide), fun td ntd => ?_⟩
        have s3 := s2.trans (same_new (o := .tup [.int ((k + 1 : Nat) : Int), x, y, .str (mkS torn)]) ntd)
        have rd3 : Rp (upd H2 td (.tup [.int ((k + 1 : Nat) : Int), x, y, .str (mkS torn)])) (.ref td) (toldD g (l.take k) torn) := by
          refine .tup upd_same (.cons ?_ (.cons (rx.mono s3) (.cons (ry.mono s3) (.cons (.str _) .nil))))
          rw [lk]
          exact .int _
        revert s3 rd3
        generalize upd H2 td (.tup [.int ((k + 1 : Nat) : Int), x, y, .str (mkS torn)]) = H3
        intro s3 rd3
        have etx : mkS (pre (jT g l) (k + 1) ++ torn) = mkS (joinL [10] (jT g (l.take k) ++ [torn])) := by rw [pre_join]
        have lenx : (joinL [10] (jT g (l.take k) ++ [torn])).length ≤ 100000 := by
          rw [← pre_join, List.length_append]
          have z := congrArg List.length et
          rw [List.length_take, List.length_append] at z
          omega
        have jk := jOk_take k jok
        -- the first call
        refine ⟨_, rfl, _, rfl, .inl ⟨H3, vr, rs, g, l.take k, torn, by rw [etx]; rfl, Same.refl _, hvr.mono s3, ok, gd, jk, nt, lenx, by omega, fun G4 H4 u X4 ru => ⟨_, rfl, u, .ref td, g, l.take k, torn, rfl, ru.mono X4.gh, rd3.mono (X4.gg.trans X4.gh), ht, true, rfl, iteF ?_⟩⟩⟩
        have s4 := s3.trans (X4.gg.trans X4.gh)
        have rd4 := rd3.mono (X4.gg.trans X4.gh)
        -- another journal
        refine ⟨(by show 2 ≤ sizeLine; decide), fun ta nta => .inl ⟨_, .ref ta, [1, 0], [none, some (0, 0)], [], [49], by rw [lit_read]; rfl, Same.refl _, rd_mk upd_same, ⟨by decide, fun i m e => ?_⟩, good10, trivial, by decide, by decide +kernel, by decide, fun G5 H5 u5 X5 ru5 => ?_⟩⟩
        · match i, e with
          | 0, e => cases Option.some.inj e; decide
          | 1, e => cases Option.some.inj e; decide
          | i + 2, e => cases e
        have s5 := (s4.trans (same_new nta)).trans (X5.gg.trans X5.gh)
        have rd5 := (rd4.mono (same_new (o := .tup [.int 1, .int 0]) nta)).mono (X5.gg.trans X5.gh)
        have ru5' := ru5.mono X5.gh
        refine ⟨(by show 2 ≤ sizeLine; decide), fun tb ntb => ⟨(by show 2 ≤ sizeLine; decide), fun td2 ntd2 => ⟨(by show 4 ≤ sizeLine; decide), fun te nte => ?_⟩⟩⟩
        have sb := same_new (o := .tup [.int 0, .int 0]) ntb
        have sc := same_new (o := .tup [.non, .ref tb]) ntd2
        have sd := same_new (o := .tup [.int 1, .ref td2, .non, .str (Str.ofString "1")]) nte
        have rE : Rp (upd (upd (upd H5 tb (.tup [.int 0, .int 0])) td2 (.tup [.non, .ref tb])) te (.tup [.int 1, .ref td2, .non, .str (Str.ofString "1")])) (.ref te) (toldD [none, some (0, 0)] [] [49]) := by
          refine .tup upd_same (.cons (.int 1) (.cons (.tup (sd _ _ upd_same) (.cons .non (.cons (.tup (sd _ _ (sc _ _ upd_same)) (.cons (.int 0) (.cons (.int 0) .nil))) .nil))) (.cons .non (.cons ?_ .nil))))
          rw [lit_1]
          exact .str _
        have s6 := ((s5.trans sb).trans sc).trans sd
        have rd6 := ((rd5.mono sb).mono sc).mono sd
        have ru6 := ((ru5'.mono sb).mono sc).mono sd
        have L := lo_told [none, some (0, 0)] [] [49] (by decide)
        refine ⟨_, _, ru6.dp, rE.dp, L.shaped (by decide), L.shaped (by decide), _, rfl, ?_⟩
        rw [SeqAt.eqv_refl _ L.1]
        refine iteF ?_
        -- the first journal again
        refine ⟨_, rfl, _, rfl, .inl ⟨_, vr, rs, g, l.take k, torn, by rw [etx]; rfl, Same.refl _, hvr.mono s6, ok, gd, jk, nt, lenx, by omega, fun G7 H7 u X7 ru => ⟨_, rfl, u, .ref td, g, l.take k, torn, rfl, ru.mono X7.gh, rd6.mono (X7.gg.trans X7.gh), ht, ?_⟩⟩⟩
        exact q _ (s6.trans (X7.gg.trans X7.gh))
    · obtain ⟨_, _, s', _⟩ := h
      exact SqL.of (s' _ _ eR)
    · rintro hbrk i xv σ H2 ex ⟨y7, rfl, s2, hp⟩
      obtain ⟨t, et, rfl⟩ := map_at ex
      have hi := (List.getElem?_eq_some_iff.mp et).1
      have t320 := jT_size ok gd jok (by omega) t (List.mem_of_getElem? et)
      have lm : (mkS (t ++ [10])).length = t.length + 1 := by rw [mkS_len, List.length_append]; rfl
      refine ⟨_, rfl, _, rfl, _, rfl, by rw [lm]; exact sz (by omega), _, _, rfl, rfl, _, rfl, _, _, rfl, rfl, _, rfl, ?_⟩
      rw [lm]
      by_cases hle : (pre (jT g l) i).length + (t.length + 1) ≤ n
      · refine iteD (by omega) ?_
        refine ⟨_, rfl, _, _, rfl, rfl, _, rfl, _, rfl, _, rfl, by rw [lm]; exact sz (by omega), _, _, rfl, rfl, _, _, rfl, ?_⟩
        have e1 : ((pre (jT g l) i).length : Int) + ((mkS (t ++ [10])).length : Int) = ((pre (jT g l) (i + 1)).length : Int) := by
          rw [lm, pre_succ et, List.length_append, List.length_append, List.length_singleton]
          omega
        refine ⟨_, by rw [← e1]; rfl, s2, ?_⟩
        rw [pre_succ et, List.length_append, List.length_append, List.length_singleton]
        exact hle
      · refine iteDF (by omega) ?_
        exact hbrk _ _ ⟨i, _, rfl, s2, by omega, hp, .inr ⟨t, et, by omega⟩⟩
    · rintro σ H2 ⟨y7, rfl, s2, hp⟩
      have e : (rowsV g l).length = (jT g l).length := by rw [rowsV_len, lt]
      rw [e] at hp
      exact ⟨(jT g l).length, y7, by rw [e], s2, Nat.le_refl _, hp, .inl rfl⟩
end
end KJ
set_option maxHeartbeats 4000000
namespace KJ
open PySem PySem.Spec PyProof.Rows L2 TL
section
variable {P : Program} {w : World} {K : PySem.W.Frag} {mg : Str → Option Value} {base : Heap} {t1 t2 : Tok} {f : Addr} {fd : FuncData}
/-! ### _law_texts_right -/
def sp_texts_right : Sp := fun vs H Q _ => ∃ (G : Hp) (a : Addr) (vr v : V) (rs : List Nat) (g : Forest), vs = [.ref a, vr, v] ∧ Same G H ∧ G a = none ∧ Src H a ∧ Rp G vr (rd rs) ∧ Rp G v (fod g) ∧ RsOk rs ∧ Good rs g ∧
  ∀ G' H', Xt [a] G H G' H' → Src H' a → Q (.bl true) H'
theorem ok_law_texts_right (T : Txt mg t1 t2) (c_law_take : Cal P w K mg base 1 "_law_take" sp_take) (c_law_grown : Cal P w K mg base 3 "_law_grown" sp_grown) (c_law_hang_row : Cal P w K mg base 4 "_law_hang_row" sp_hang_row)
    (c_law_base : Cal P w K mg base 2 "_law_base" sp_base_text) (c_law_open : Cal P w K mg base 2 "_law_open" sp_lopen) (c_law_lay : Cal P w K mg base 2 "_law_lay" sp_lay_text)
    (c_base_text : Cal P w K mg base 3 "base_text" sp_base_text) (c_lay_text : Cal P w K mg base 3 "lay_text" sp_lay_text) (c_open_text : Cal P w K mg base 2 "open_text" sp_open_text) (c_shut_text : Cal P w K mg base 1 "shut_text" sp_shut_text)
    (F : FunT K "_law_texts_right" s_law_texts_right f fd) : FnOk P w K mg base CX0 5 f fd ["_law_source", "_law_rooms_here", "_law_forest"] sp_texts_right := by
  refine F.ok sc_law_texts_right (fun vs H Q E h => ?_) (fun cdv A outer s H vs Q E hr h => ?_)
  · obtain ⟨G, a, vr, v, rs, g, rfl, _⟩ := h
    rfl
  · have hu64 := hu64_of hr
    obtain ⟨G, a, vr, v, rs, g, rfl, sG, ga, sa, hvr, hv, ok, gd, q⟩ := h
    have aM : a ∈ [a] := List.mem_singleton.mpr rfl
    refine ⟨_, (pss_cons (ps_par (i := 3) (j := 4) (by rfl) sc_law_texts_right.nd rfl rfl (by decide) rfl rfl (pa_cons (pe_op op_add pe_int (pe_c c_law_take hr (by decide) rfl (pa_cons (pv 0) (pa_cons pe_int pa_nil)))) (pa_cons (pe_c c_law_grown hr (by decide) rfl (pa_cons (pv 0) (pa_cons (pv 1) pa_nil))) pa_nil)) (by rfl))
      (pss_cons (ps_asg (pe_c c_law_hang_row hr (by decide) rfl (pa_cons (pv 0) (pa_cons (pv 1) (pa_cons (pv 2) pa_nil)))) (pg_tup rfl (pgs_cons (pg_name (i := 5) sc_law_texts_right.nd rfl (Or.inl rfl)) (pgs_cons (pg_name (i := 6) sc_law_texts_right.nd rfl (Or.inl rfl)) pgs_nil))))
      (pss_cons (ps_if (PW.pt (pw_or (pt_cmpR op_ne (pe_c c_base_text hr (by decide) rfl (pa_cons (pv 2) pa_nil)) (pe_c c_law_base hr (by decide) rfl (pa_cons (pv 2) pa_nil)) (nomark _)) (pw_or1 (pt_cmpR op_ne (pe_c c_lay_text hr (by decide) rfl (pa_cons (pv 3) (pa_cons (pv 4) pa_nil))) (pe_c c_law_lay hr (by decide) rfl (pa_cons (pv 3) (pa_cons (pv 4) pa_nil))) (nomark _))))) (pss_one (ps_ret pe_bl)) pss_nil)
      (pss_cons (ps_if (PW.pt (pw_and (pt_cmpR (r := rNeD K) (op_neD hu64) (pv 5) (pe_lst pa_nil) (nomark _)) (pw_and1 (pt_cmpR op_ne (pe_c c_open_text hr (by decide) rfl (pa_cons (pv 3) (pa_cons (pe_callTy call_tuple_of (by rfl) T.tuple (by decide +kernel) (pa_cons (pv 5) pa_nil)) pa_nil))) (pe_c c_law_open hr (by decide) rfl (pa_cons (pv 3) (pa_cons (pv 5) pa_nil))) (nomark _))))) (pss_one (ps_ret pe_bl)) pss_nil)
      (pss_one (ps_ret (pe_cmpR op_eq (pe_c c_shut_text hr (by decide) rfl (pa_cons (pv 3) pa_nil)) (pe_op op_add_str (pe_callTy call_str_int (by rfl) T.str (by decide +kernel) (pa_cons (pv 3) pa_nil)) pe_str) (nomark _)))))))), ?_⟩
    refine ⟨_, rfl, a, 999, rfl, by decide, by decide, sa, fun n b m hn so => ⟨_, _, rfl, rfl, ?_⟩⟩
    have X1 := (Xt.refl (M := [a]) sG).mut (o := .lst [.int b, .int m]) ga (.inl aM)
    have s1 : Src (upd H a (.lst [.int b, .int m])) a := Src.upd so
    revert X1 s1
    generalize upd H a (.lst [.int b, .int m]) = H1
    intro X1 s1
    have e : (1 : Int) + (n : Int) = ((1 + n : Nat) : Int) := by omega
    have e0 : (fun i j : Int => V.int (i + j)) 1 (n : Int) = V.int ((1 + n : Nat) : Int) := congrArg V.int e
    rw [e0]
    have h4 : 1 + n < 10000 := by omega
    have l4 := num_len h4
    refine ⟨_, rfl, _, rfl, G, a, vr, rs, rfl, X1.gh, ga, s1, hvr, ok, fun G2 H2 u g2 X2 s2 gd2 ru => ⟨_, _, rfl, ?_⟩⟩
    have X12 := X1.trans X2
    have ga2 := X2.nn _ _ s1.choose_spec.choose_spec.1 ga
    refine ⟨_, rfl, _, rfl, _, rfl, G2, a, vr, v, rs, g, rfl, X2.gh, ga2, s2, hvr.mono X12.gg, hv.mono X12.gg, ok, gd, fun G3 H3 t RR u3 zr hs X3 s3 et nRR eRR rzr hok hl5 ru3 => ?_⟩
    have X13 := X12.trans X3
    refine ⟨t, _, rfl, SqT.of (X3.gh _ _ et), rfl, _, _, rfl, _, _, rfl, rfl, ?_⟩
    have v3 := hv.mono X13.gg
    have u3' := ru.mono X3.gg
    have okg := okF_of gd ok
    have okg2 := okF_of gd2 ok
    have okh := okH_of hok gd ok (by omega)
    refine ⟨_, rfl, v, g, rfl, v3.mono X3.gh, okg, fun H4 s4 => ⟨_, rfl, v, g, rfl, v3.mono (X3.gh.trans s4), okg, fun H5 s5 => ⟨rfl, _, rfl, iteNS rfl ?_⟩⟩⟩
    have s35 := s4.trans s5
    refine ⟨_, rfl, _, rfl, 1 + n, u, g2, rfl, h4, u3'.mono (X3.gh.trans s35), okg2, fun H6 s6 => ⟨_, rfl, _, rfl, 1 + n, u, g2, rfl, h4, u3'.mono ((X3.gh.trans s35).trans s6), okg2, fun H7 s7 => ⟨rfl, _, rfl, iteNS rfl ?_⟩⟩⟩
    have s37 := (s35.trans s6).trans s7
    refine ⟨_, rfl, Nat.zero_le _, fun z nz => ?_⟩
    have sz' := same_new (o := .lst []) nz
    have s38 := s37.trans sz'
    have ez : (upd H7 z (.lst [])) z = some (.lst []) := upd_same
    revert s38 ez
    generalize upd H7 z (.lst []) = H8
    intro s38 ez
    refine ne_nil (s38 _ _ eRR) (rzr.mono (X3.gh.trans s38)) ez (hds_lo hs) (by decide) ⟨_, rfl, ?_⟩
    by_cases hh : hs = []
    · subst hh
      refine iteF (iteF ?_)
      refine ⟨_, rfl, 1 + n, rfl, h4, _, rfl, _, rfl, lg (by omega), num (1 + n), _, rfl, rfl, ?_, rfl, ?_⟩
      · rw [num_mkS, lit_shut, mkS_len, mkS_len]; exact sz (by show _ + 6 ≤ 100000; omega)
      rw [shut_eq, decide_eq_true rfl]
      exact q _ _ (X13.trans (Xt.same X13.gh s38)) (s3.same s38)
    · have eh : (!(hs.map hd).isEmpty) = true := by
        cases hs with
        | nil => exact absurd rfl hh
        | cons _ _ => rfl
      refine ifT_of eh ?_
      refine ⟨_, rfl, _, rfl, RR, _, rfl, .inl ⟨SqL.of (s38 _ _ eRR), fun t1 nt1 => ?_⟩⟩
      have s39 := s38.trans (same_new (o := .tup zr) nt1)
      refine ⟨1 + n, .ref t1, hs, rfl, h4, .tup upd_same (rzr.mono (X3.gh.trans s39)), okh, fun H9 s9 => ⟨_, rfl, _, rfl, 1 + n, RR, zr, hs, rfl, h4, s9 _ _ (s39 _ _ eRR), rzr.mono ((X3.gh.trans s39).trans s9), okh, fun H10 s10 => ⟨rfl, _, rfl, iteNS rfl ?_⟩⟩⟩
      have s310 := (s39.trans s9).trans s10
      refine ⟨_, rfl, 1 + n, rfl, h4, _, rfl, _, rfl, lg (by omega), num (1 + n), _, rfl, rfl, ?_, rfl, ?_⟩
      · rw [num_mkS, lit_shut, mkS_len, mkS_len]; exact sz (by show _ + 6 ≤ 100000; omega)
      rw [shut_eq, decide_eq_true rfl]
      exact q _ _ (X13.trans (Xt.same X13.gh s310)) (s3.same s310)
end
end KJ
set_option maxHeartbeats 4000000
namespace KJ
open PySem PySem.Spec PyProof.Rows L2 TL
theorem good01 : Good [0, 1] [none, none] := Good.floor [0, 1]
theorem ok01 : RsOk [0, 1] := ⟨by decide, fun i m e => by
  match i, e with
  | 0, e => cases Option.some.inj e; decide
  | 1, e => cases Option.some.inj e; decide
  | i + 2, e => cases e⟩
theorem flat_ge : ∀ ts : List (List Nat), ts.length ≤ ((ts.map (· ++ [10])).flatten).length
  | [] => Nat.zero_le _
  | t :: ts => by
    have ih := flat_ge ts
    rw [List.map_cons, List.flatten_cons, List.length_append, List.length_append, List.length_singleton, List.length_cons]
    omega
structure LInv (G H : Hp) (a R S : Addr) (i : Nat) (l : List Row) (zs : List V) (pl : Place) (G' H' : Hp) (v : V) : Prop where
  x : Xt [a] G H G' H'
  s : Src H' a
  eR : H' R = some (.lst (rowsV [none, none] l))
  eS : H' S = some (.lst zs)
  gR : G' R = none
  gS : G' S = none
  rz : RpA G' zs (stsL ⟨[none, none], none⟩ l)
  j : jOk [0, 1] ⟨[none, none], none⟩ l
  len : l.length = 2 * i
  st : stF ⟨[none, none], none⟩ l = ⟨[pl, none], none⟩
  alt : pl = none ∨ pl = some (1, 0)
  v : Rp G' v (fod [pl, none])
section
variable {P : Program} {w : World} {K : PySem.W.Frag} {mg : Str → Option Value} {base : Heap} {t1 t2 : Tok} {f : Addr} {fd : FuncData}
/-! ### _law_long_right -/
def sp_long_right : Sp := fun vs H Q _ => ∃ (G : Hp) (a : Addr), vs = [.ref a] ∧ Same G H ∧ G a = none ∧ Src H a ∧ ∀ G' H', Xt [a] G H G' H' → Src H' a → Q (.bl true) H'
theorem ok_law_long_right (T : Txt mg t1 t2) (c_law_take : Cal P w K mg base 1 "_law_take" sp_take) (c_law_base : Cal P w K mg base 2 "_law_base" sp_base_text) (c_law_open : Cal P w K mg base 2 "_law_open" sp_lopen) (c_law_read_right : Cal P w K mg base 8 "_law_read_right" sp_read_right)
    (F : FunT K "_law_long_right" s_law_long_right f fd) : FnOk P w K mg base CX0 9 f fd ["_law_source"] sp_long_right := by
  refine F.ok sc_law_long_right (fun vs H Q E h => ?_) (fun cdv A outer s H vs Q E hr h => ?_)
  · obtain ⟨G, a, rfl, _⟩ := h
    rfl
  · obtain ⟨G, a, rfl, sG, ga, sa, q⟩ := h
    have aM : a ∈ [a] := List.mem_singleton.mpr rfl
    obtain ⟨b0, m0, hA, so0⟩ := id sa
    refine ⟨_, (pss_cons (ps_par (i := 1) (j := 2) (by rfl) sc_law_long_right.nd rfl rfl (by decide) rfl rfl (pa_cons (pe_lst (pa_cons (pe_c c_law_base hr (by decide) rfl (pa_cons (pe_tup (pa_cons pe_non (pa_cons pe_non pa_nil))) pa_nil)) pa_nil)) (pa_cons (pe_tup (pa_cons pe_non (pa_cons pe_non pa_nil))) pa_nil)) (by rfl))
      (pss_cons (ps_set (i := 3) sc_law_long_right.nd rfl (Or.inl rfl) (pe_lst (pa_cons (pe_tup (pa_cons (pv 2) (pa_cons pe_non pa_nil))) pa_nil)))
      (pss_cons (ps_for PassesOwn.never rfl (pi_range1 (by rfl) T.range (pa_cons (pe_op op_add pe_int (pe_c c_law_take hr (by decide) rfl (pa_cons (pv 0) (pa_cons pe_int pa_nil)))) pa_nil)) (pg_name (i := 4) sc_law_long_right.nd rfl (Or.inl rfl)) (pss_cons (ps_set (i := 5) sc_law_long_right.nd rfl (Or.inl rfl) (pe_ifExp (pt_cmpR op_isN (pe_ix (r := rIxT K) ix_tup (pv 2) pe_int (fun _ _ => rfl)) pe_non (nomark _)) (pe_tup (pa_cons pe_int (pa_cons pe_int pa_nil))) pe_non))
      (pss_cons (ps_par (i := 6) (j := 7) (by rfl) sc_law_long_right.nd rfl rfl (by decide) rfl rfl (pa_cons (pe_lst (pa_cons (pe_tup (pa_cons pe_int (pa_cons (pv 5) pa_nil))) pa_nil)) (pa_cons (pe_callB call_len_seq (by rfl) T.len (by decide +kernel) (pa_cons (pv 1) pa_nil)) pa_nil)) (by rfl))
      (pss_cons (ps_expr (pe_bm PySem.F.plainAttrs_list PySem.F.slot_list_extend PySem.F.type_list_extend mt_extend (pv 1) (pa_cons (pe_lst (pa_cons (pe_c c_law_open hr (by decide) rfl (pa_cons (pv 7) (pa_cons (pv 6) pa_nil))) (pa_cons (pe_op op_add_str (pe_callTy call_str_int (by rfl) T.str (by decide +kernel) (pa_cons (pe_op op_add (pv 7) pe_int) pa_nil)) pe_str) pa_nil))) pa_nil)))
      (pss_cons (ps_expr (pe_bm PySem.F.plainAttrs_list PySem.F.slot_list_append PySem.F.type_list_append mt_append (pv 3) (pa_cons (pe_tup (pa_cons (pv 2) (pa_cons (pe_tup (pa_cons pe_str (pa_cons (pe_callTy call_tuple_of (by rfl) T.tuple (by decide +kernel) (pa_cons (pv 6) pa_nil)) pa_nil))) pa_nil))) pa_nil)))
      (pss_cons (ps_set (i := 2) sc_law_long_right.nd rfl (Or.inl rfl) (pe_tup (pa_cons (pv 5) (pa_cons pe_non pa_nil))))
      (pss_one (ps_expr (pe_bm PySem.F.plainAttrs_list PySem.F.slot_list_append PySem.F.type_list_append mt_append (pv 3) (pa_cons (pe_tup (pa_cons (pv 2) (pa_cons pe_non pa_nil))) pa_nil))))))))))
      (pss_cons (ps_set (i := 8) sc_law_long_right.nd rfl (Or.inl rfl) (pe_callB call_len_str (by rfl) T.len (by decide +kernel) (pa_cons (pe_join pe_str (pv 1)) pa_nil)))
      (pss_cons (ps_for PassesOwn.never rfl (pi_list (pe_lst (pa_cons (pv 8) (pa_cons (pe_op op_sub (pe_op op_sub (pv 8) pe_int) (pe_c c_law_take hr (by decide) rfl (pa_cons (pv 0) (pa_cons pe_int pa_nil)))) (pa_cons (pe_c c_law_take hr (by decide) rfl (pa_cons (pv 0) (pa_cons (pe_op op_add (pv 8) pe_int) pa_nil))) pa_nil))))) (pg_name (i := 9) sc_law_long_right.nd rfl (Or.inl rfl)) (pss_one (ps_if (pt_not (pt_val (pe_c c_law_read_right hr (by decide) rfl (pa_cons (pe_tup (pa_cons pe_int (pa_cons pe_int pa_nil))) (pa_cons (pv 1) (pa_cons (pv 3) (pa_cons (pv 9) pa_nil))))))) (pss_one (ps_ret pe_bl)) pss_nil)))
      (pss_one (ps_ret pe_bl))))))), ?_⟩
    refine ⟨(by show 2 ≤ sizeLine; decide), fun t1 nt1 => ⟨.ref t1, [none, none], rfl, .tup upd_same (.cons .non (.cons .non .nil)), okF_of good01 ok01, fun H1 s1 => ⟨(by show 1 ≤ sizeLine; decide), fun R nR => ⟨(by show 2 ≤ sizeLine; decide), fun t2 nt2 => ⟨_, _, rfl, ?_⟩⟩⟩⟩⟩
    have sH1 : Same H H1 := (same_new nt1).trans s1
    have X1 : Xt [a] G H G (upd H1 R (.lst [.str (mkS (baseL [none, none]))])) := (Xt.same sG sH1).newM nR
    have eR1 : (upd H1 R (.lst [.str (mkS (baseL [none, none]))])) R = some (.lst (rowsV [none, none] [])) := by
      rw [upd_same]
      show _ = some (HO.lst [nlV (baseT [none, none])])
      unfold nlV
      rw [baseT_nl]
    have nR0 := sH1.free nR
    have nRa : R ≠ a := ne_src sa nR0
    have sR : Src (upd H1 R (.lst [.str (mkS (baseL [none, none]))])) a := Src.ne (H' := H) (sa.same sH1) nRa
    revert X1 eR1 sR nt2
    generalize upd H1 R (.lst [.str (mkS (baseL [none, none]))]) = HR
    intro nt2 X1 eR1 sR
    refine ⟨_, rfl, (by show 2 ≤ sizeLine; decide), fun t3 nt3 => ⟨(by show 1 ≤ sizeLine; decide), fun S nS => ?_⟩⟩
    have X2 := X1.new (o := .tup [.non, .non]) nt2
    have X3 := X2.new (o := .tup [.ref t2, .non]) nt3
    have X4 := X3.newM (o := .lst [.ref t3]) nS
    have eR2 := same_new (o := .tup [.non, .non]) nt2 _ _ eR1
    have eR3 := same_new (o := .tup [.ref t2, .non]) nt3 _ _ eR2
    have nRS : R ≠ S := ne_of_none eR3 nS
    have nS0 : H S = none := by
      cases z : H S with
      | none => rfl
      | some u =>
        obtain ⟨o', e'⟩ := X3.lv _ _ z
        rw [e'] at nS
        cases nS
    have nSa : S ≠ a := ne_src sa nS0
    have s2' := Src.ne (o := .tup [.non, .non]) (H' := H) sR (ne_src sR nt2)
    have s3' := Src.ne (o := .tup [.ref t2, .non]) (H' := H) s2' (ne_src s2' nt3)
    have s4' := Src.ne (o := .lst [.ref t3]) (H' := H) s3' nSa
    have gt2 := same_new (o := .tup [.non, .non]) (X1.gh.free nt2)
    have gt3 := same_new (o := .tup [.ref t2, .non]) (X2.gh.free nt3)
    have rv : Rp (upd (upd G t2 (.tup [.non, .non])) t3 (.tup [.ref t2, .non])) (.ref t2) (fod [none, none]) := .tup (gt3 _ _ upd_same) (.cons .non (.cons .non .nil))
    have I0 : LInv G H a R S 0 [] [.ref t3] none (upd (upd G t2 (.tup [.non, .non])) t3 (.tup [.ref t2, .non])) (upd (upd (upd HR t2 (.tup [.non, .non])) t3 (.tup [.ref t2, .non])) S (.lst [.ref t3])) (.ref t2) :=
      ⟨X4, s4', by rw [upd_ne nRS]; exact eR3, upd_same, by rw [upd_ne (ne_of_none eR2 nt3), upd_ne (ne_of_none eR1 nt2)]; exact sG.free nR0, (X3.gh.free nS), .cons (.tup upd_same (.cons rv (.cons .non .nil))) .nil, trivial, rfl, rfl, .inl rfl, rv⟩
    revert I0
    generalize upd (upd (upd HR t2 (.tup [.non, .non])) t3 (.tup [.ref t2, .non])) S (.lst [.ref t3]) = H4
    generalize upd (upd G t2 (.tup [.non, .non])) t3 (.tup [.ref t2, .non]) = G4
    intro I0
    refine ⟨_, rfl, a, 3, rfl, by decide, by decide, I0.s, fun n b m hn so => ⟨_, _, rfl, rfl, _, rfl, ?_⟩⟩
    have I1 : LInv G H a R S 0 [] [.ref t3] none G4 (upd H4 a (.lst [.int b, .int m])) (.ref t2) :=
      ⟨I0.x.mut (I0.x.nn _ _ hA ga) (.inl aM), Src.upd so, by rw [upd_ne nRa]; exact I0.eR, by rw [upd_ne nSa]; exact I0.eS, I0.gR, I0.gS, I0.rz, I0.j, I0.len, I0.st, I0.alt, I0.v⟩
    have hb2 : -(2 ^ 62) ≤ 50 + (n : Int) ∧ 50 + (n : Int) < 2 ^ 62 := by
      have : (2 : Int) ^ 62 = 4611686018427387904 := by decide
      omega
    refine ⟨hb2.1, hb2.2, for_range (fun i σ H' => ∃ (G' : Hp) (l : List Row) (zs : List V) (pl : Place) (v : V) (y4 y5 y6 y7 : Option V), σ = [some (.ref a), some (.ref R), some v, some (.ref S), y4, y5, y6, y7, none, none] ∧ LInv G H a R S i l zs pl G' H' v)
      ⟨G4, [], [.ref t3], none, .ref t2, none, none, none, none, rfl, I1⟩ ?_ ?_⟩
    · rintro i σ K1 hi ⟨G1, l, zs, pl, v, y4, y5, y6, y7, rfl, I⟩
      have i52 : i < 52 := by omega
      have ll := I.len
      have gA1 : G1 a = none := I.x.nn _ _ hA ga
      obtain ⟨av, x0, x1, hv0, hav, rx0, rx1⟩ := pair_inv (d := pd pl) (e := pd none) I.v
      have hav1 := I.x.gh _ _ hav
      subst hv0
      rcases I.alt with hpl0 | hpl0
      · have hx0 : x0 = .non := by rw [hpl0] at rx0; exact pd_none rx0
        refine ⟨_, rfl, av, _, 0, x0, rfl, rfl, SqT.of hav1, atI_nat (j := 0) rfl, rfl, _, rfl, iteD hx0 ⟨(by show 2 ≤ sizeLine; decide), fun tp ntp => ?_⟩⟩
        have X12 : Xt [a] G1 K1 (upd G1 tp (.tup [.int 1, .int 0])) (upd K1 tp (.tup [.int 1, .int 0])) := (Xt.refl I.x.gh).new ntp
        have s2 : Src (upd K1 tp (.tup [.int 1, .int 0])) a := Src.ne (H' := H) I.s (ne_src I.s ntp)
        have rp : Rp (upd G1 tp (.tup [.int 1, .int 0])) (.ref tp) (pd (some (1, 0))) := .tup upd_same (.cons (.int 1) (.cons (.int 0) .nil))
        revert X12 s2 rp
        generalize upd G1 tp (.tup [.int 1, .int 0]) = G2
        generalize upd K1 tp (.tup [.int 1, .int 0]) = K2
        generalize hwp : V.ref tp = wp
        generalize hv : V.ref av = v at *
        obtain ⟨pl', hpl'⟩ : ∃ p : Place, p = some (1, 0) := ⟨_, rfl⟩
        rw [← hpl']
        intro X12 s2 rp
        have hne : pl ≠ pl' := by rw [hpl0, hpl']; intro z; cases z
        have hokp : okP [0, 1] 0 pl' := by rw [hpl']; exact ⟨by decide, 1, rfl, by decide⟩
        have hmay : mayGo [pl, none] 0 pl' := by rw [hpl']; exact ⟨by decide, [], .root rfl, List.not_mem_nil⟩
        have hpl : pl' = none ∨ pl' = some (1, 0) := .inr hpl'
        have hk : hangsOk [0, 1] [] [pl, none] [(0, pl')] := ⟨by show 0 < 2; decide, by simp, by
          intro z
          have z' : pl = pl' := Option.some.inj z
          exact hne z', hokp, hmay, trivial⟩
        have so1 : StaOk [0, 1] (stF ⟨[none, none], none⟩ l) := jOk_ok ⟨good01, trivial⟩ I.j
        refine ⟨_, rfl, (by show 2 ≤ sizeLine; decide), fun t nt => ⟨(by show 1 ≤ sizeLine; decide), fun W nW => ?_⟩⟩
        have X3 := X12.new (o := .tup [.int 0, wp]) nt
        have gt := X12.gh.free nt
        have sgt := same_new (o := .tup [.int 0, wp]) gt
        have rt : Rp (upd G2 t (.tup [.int 0, wp])) (.ref t) (hd (0, pl')) := .tup upd_same (.cons (.int 0) (.cons (rp.mono sgt) .nil))
        have X4 := X3.newM (o := .lst [.ref t]) nW
        have sW : Src (upd K2 t (.tup [.int 0, wp])) a := Src.ne (H' := H) s2 (ne_src s2 nt)
        have s4 : Src (upd (upd K2 t (.tup [.int 0, wp])) W (.lst [.ref t])) a := Src.ne (H' := H) sW (ne_src sW nW)
        have eW : (upd (upd K2 t (.tup [.int 0, wp])) W (.lst [.ref t])) W = some (.lst [.ref t]) := upd_same
        have nWR : W ≠ R := (ne_of_none (X3.hh _ _ (by simpa using nRa) I.eR) nW).symm
        revert X4 rt s4 eW sgt X3 nW
        generalize upd (upd K2 t (.tup [.int 0, wp])) W (.lst [.ref t]) = K4
        generalize upd G2 t (.tup [.int 0, wp]) = G3
        intro nW X3 sgt rt X4 s4 eW
        have gA3 : G3 a = none := X4.nn _ _ (id I.s).choose_spec.choose_spec.1 gA1
        have eR4 : K4 R = some (.lst (rowsV [none, none] l)) := X4.hh _ _ (by simpa using nRa) I.eR
        have eS4 : K4 S = some (.lst zs) := X4.hh _ _ (by simpa using nSa) I.eS
        have gR3 : G3 R = none := X4.nn _ _ I.eR I.gR
        have gS3 : G3 S = none := X4.nn _ _ I.eS I.gS
        refine ⟨_, rfl, R, _, rfl, .inl (SqL.of eR4), _, _, rfl, ?_⟩
        rw [rowsV_len]
        have rW : RpA G3 [.ref t] ([(0, pl')].map hd) := .cons rt .nil
        have okh : okH [(0, pl')] := ⟨by show 1 ≤ 24; decide, fun x hx => by
          rw [List.mem_singleton.mp hx]
          exact ⟨by show 0 < 100; decide, okP_okw hokp (by decide) (fun i m e => ok01.le4 i m e)⟩⟩
        have hn4 : l.length + 1 < 10000 := by omega
        have l4 := num_len hn4
        have l42 := num_len (n := l.length + 2) (by omega)
        have lR : (rowsV [none, none] l).length = l.length + 1 := rowsV_len _ _
        refine ⟨_, rfl, .inl ⟨rfl, _, SqL.of eR4⟩, _, rfl, _, rfl, l.length + 1, W, [.ref t], [(0, pl')], rfl, hn4, eW, rW.mono X4.gh, okh, fun K5 s5 => ?_⟩
        refine ⟨_, rfl, _, _, rfl, rfl, _, rfl, lg (n := l.length + 2) (by omega), num (l.length + 2), _, rfl, rfl, ?_, ?_⟩
        · rw [num_mkS, lit_shut, mkS_len, mkS_len]; exact sz (by show _ + 6 ≤ 100000; omega)
        rw [shut_eq]
        have et1 : V.str (mkS (openL (l.length + 1) [(0, pl')])) = nlV (rowT (l.length + 1) (.op [(0, pl')])) := by
          unfold nlV
          rw [rowT_op]
        have et2 : V.str (mkS (shutL (l.length + 2))) = nlV (rowT (l.length + 2) .shut) := by
          unfold nlV
          rw [rowT_shut]
        rw [et1, et2]
        refine ⟨(by show 2 ≤ sizeLine; decide), fun E nE => ⟨R, E, rowsV [none, none] l, _, rfl, rfl, by rw [upd_ne (ne_of_none (s5 _ _ eR4) nE)]; exact s5 _ _ eR4, upd_same, Nat.le_of_lt (small1000 (by rw [lR, List.length_cons, List.length_singleton]; omega)), ?_⟩⟩
        have erow : rowsV [none, none] l ++ [nlV (rowT (l.length + 1) (.op [(0, pl')])), nlV (rowT (l.length + 2) .shut)] = rowsV [none, none] (l ++ [.op [(0, pl')]] ++ [.shut]) := by
          rw [rowsV_snoc, rowsV_snoc, List.append_assoc, List.length_append]
          rfl
        rw [erow]
        have X5 := (X4.trans (Xt.same X4.gh s5)).newM (o := .lst [nlV (rowT (l.length + 1) (.op [(0, pl')])), nlV (rowT (l.length + 2) .shut)]) nE
        have s5a := s4.same s5
        have X6 := (I.x.trans X5).mut (o := .lst (rowsV [none, none] (l ++ [.op [(0, pl')]] ++ [.shut]))) gR3 (.inr nR0)
        have s6 := Src.ne (o := .lst (rowsV [none, none] (l ++ [.op [(0, pl')]] ++ [.shut]))) (H' := H) (Src.ne (o := .lst [nlV (rowT (l.length + 1) (.op [(0, pl')])), nlV (rowT (l.length + 2) .shut)]) (H' := H) s5a (ne_src s5a nE)) nRa
        have eW6 : (upd (upd K5 E (.lst [nlV (rowT (l.length + 1) (.op [(0, pl')])), nlV (rowT (l.length + 2) .shut)])) R (.lst (rowsV [none, none] (l ++ [.op [(0, pl')]] ++ [.shut])))) W = some (.lst [.ref t]) := by
          rw [upd_ne nWR, upd_ne (ne_of_none (s5 _ _ eW) nE)]
          exact s5 _ _ eW
        have eS6 : (upd (upd K5 E (.lst [nlV (rowT (l.length + 1) (.op [(0, pl')])), nlV (rowT (l.length + 2) .shut)])) R (.lst (rowsV [none, none] (l ++ [.op [(0, pl')]] ++ [.shut])))) S = some (.lst zs) := by
          rw [upd_ne nRS.symm]
          exact X5.hh _ _ (by simpa using nSa) I.eS
        have eR6 : (upd (upd K5 E (.lst [nlV (rowT (l.length + 1) (.op [(0, pl')])), nlV (rowT (l.length + 2) .shut)])) R (.lst (rowsV [none, none] (l ++ [.op [(0, pl')]] ++ [.shut])))) R = some (.lst (rowsV [none, none] (l ++ [.op [(0, pl')]] ++ [.shut]))) := upd_same
        revert X6 s6 eW6 eS6 eR6
        generalize upd (upd K5 E (.lst [nlV (rowT (l.length + 1) (.op [(0, pl')])), nlV (rowT (l.length + 2) .shut)])) R (.lst (rowsV [none, none] (l ++ [.op [(0, pl')]] ++ [.shut]))) = K6
        intro X6 s6 eW6 eS6 eR6
        have lz : zs.length = l.length + 1 := by rw [I.rz.len, stsL_len]
        -- states.append((forest, ("open", tuple(row))))
        refine ⟨_, rfl, .inl ⟨rfl, _, SqL.of eS6⟩, _, rfl, _, rfl, W, _, rfl, .inl ⟨SqL.of eW6, fun t1 nt1 => ⟨(by show 2 ≤ sizeLine; decide), fun t2 nt2 => ⟨(by show 2 ≤ sizeLine; decide), fun t3 nt3 => ?_⟩⟩⟩⟩
        have Y1 := X6.new (o := .tup [.ref t]) nt1
        have Y2 := Y1.new (o := .tup [.str (Str.ofString "open"), .ref t1]) nt2
        have Y3 := Y2.new (o := .tup [v, .ref t2]) nt3
        have y1 := same_new (o := .tup [.ref t]) (X6.gh.free nt1)
        have y2 := same_new (o := .tup [.str (Str.ofString "open"), .ref t1]) (Y1.gh.free nt2)
        have y3 := same_new (o := .tup [v, .ref t2]) (Y2.gh.free nt3)
        have eS3 := same_new (o := .tup [v, .ref t2]) nt3 _ _ (same_new (o := .tup [.str (Str.ofString "open"), .ref t1]) nt2 _ _ (same_new (o := .tup [.ref t]) nt1 _ _ eS6))
        have eR3 := same_new (o := .tup [v, .ref t2]) nt3 _ _ (same_new (o := .tup [.str (Str.ofString "open"), .ref t1]) nt2 _ _ (same_new (o := .tup [.ref t]) nt1 _ _ eR6))
        have sv1 := Src.ne (o := .tup [.ref t]) (H' := H) s6 (ne_src s6 nt1)
        have sv2 := Src.ne (o := .tup [.str (Str.ofString "open"), .ref t1]) (H' := H) sv1 (ne_src sv1 nt2)
        have sv3 := Src.ne (o := .tup [v, .ref t2]) (H' := H) sv2 (ne_src sv2 nt3)
        have vS1 : S ≠ t1 := ne_of_none eS6 nt1
        have vS2 : S ≠ t2 := ne_of_none (same_new (o := .tup [.ref t]) nt1 _ _ eS6) nt2
        have vS3 : S ≠ t3 := ne_of_none (same_new (o := .tup [.str (Str.ofString "open"), .ref t1]) nt2 _ _ (same_new (o := .tup [.ref t]) nt1 _ _ eS6)) nt3
        have vR1 : R ≠ t1 := ne_of_none eR6 nt1
        have vR2 : R ≠ t2 := ne_of_none (same_new (o := .tup [.ref t]) nt1 _ _ eR6) nt2
        have vR3 : R ≠ t3 := ne_of_none (same_new (o := .tup [.str (Str.ofString "open"), .ref t1]) nt2 _ _ (same_new (o := .tup [.ref t]) nt1 _ _ eR6)) nt3
        have gS7 : (upd (upd (upd G3 t1 (.tup [.ref t])) t2 (.tup [.str (Str.ofString "open"), .ref t1])) t3 (.tup [v, .ref t2])) S = none := by rw [upd_ne vS3, upd_ne vS2, upd_ne vS1]; exact gS3
        have gR7 : (upd (upd (upd G3 t1 (.tup [.ref t])) t2 (.tup [.str (Str.ofString "open"), .ref t1])) t3 (.tup [v, .ref t2])) R = none := by rw [upd_ne vR3, upd_ne vR2, upd_ne vR1]; exact gR3
        have y13 := (y1.trans y2).trans y3
        have est1 : stepR (stF ⟨[none, none], none⟩ l) (.op [(0, pl')]) = ⟨[pl, none], some (.op [(0, pl')])⟩ := by rw [I.st]; rfl
        have rz7 : RpA (upd (upd (upd G3 t1 (.tup [.ref t])) t2 (.tup [.str (Str.ofString "open"), .ref t1])) t3 (.tup [v, .ref t2])) (zs ++ [.ref t3]) (stsL ⟨[none, none], none⟩ (l ++ [.op [(0, pl')]])) := by
          rw [stsL_snoc, est1]
          exact (I.rz.mono (X4.gg.trans y13)).snoc (.tup upd_same (.cons (I.v.mono (X4.gg.trans y13)) (.cons (.tup (y3 _ _ upd_same) (.cons (.str _) (.cons (.tup (y3 _ _ (y2 _ _ upd_same)) (rW.mono y13)) .nil))) .nil)))
        have rp7 := rp.mono (sgt.trans y13)
        refine ⟨S, zs, .ref t3, rfl, rfl, eS3, by rw [lz]; exact small1000 (by omega), ?_⟩
        have Y4 := Y3.mut (o := .lst (zs ++ [.ref t3])) gS7 (.inr nS0)
        have sv4 := Src.ne (o := .lst (zs ++ [.ref t3])) (H' := H) sv3 nSa
        have eR7 : (upd (upd (upd (upd K6 t1 (.tup [.ref t])) t2 (.tup [.str (Str.ofString "open"), .ref t1])) t3 (.tup [v, .ref t2])) S (.lst (zs ++ [.ref t3]))) R = some (.lst (rowsV [none, none] (l ++ [.op [(0, pl')]] ++ [.shut]))) := by rw [upd_ne nRS]; exact eR3
        have eS7 : (upd (upd (upd (upd K6 t1 (.tup [.ref t])) t2 (.tup [.str (Str.ofString "open"), .ref t1])) t3 (.tup [v, .ref t2])) S (.lst (zs ++ [.ref t3]))) S = some (.lst (zs ++ [.ref t3])) := upd_same
        revert Y4 sv4 eR7 eS7 rz7 rp7 gS7 gR7
        generalize upd (upd (upd (upd K6 t1 (.tup [.ref t])) t2 (.tup [.str (Str.ofString "open"), .ref t1])) t3 (.tup [v, .ref t2])) S (.lst (zs ++ [.ref t3])) = K7
        generalize upd (upd (upd G3 t1 (.tup [.ref t])) t2 (.tup [.str (Str.ofString "open"), .ref t1])) t3 (.tup [v, .ref t2]) = G7
        intro gS7 gR7 rz7 rp7 Y4 sv4 eR7 eS7
        -- forest = (place, None)
        refine ⟨_, rfl, (by show 2 ≤ sizeLine; decide), fun t4 nt4 => ?_⟩
        have Z1 := Y4.new (o := .tup [wp, .non]) nt4
        have z1 := same_new (o := .tup [wp, .non]) (Y4.gh.free nt4)
        have eS8 := same_new (o := .tup [wp, .non]) nt4 _ _ eS7
        have eR8 := same_new (o := .tup [wp, .non]) nt4 _ _ eR7
        have sw1 := Src.ne (o := .tup [wp, .non]) (H' := H) sv4 (ne_src sv4 nt4)
        refine ⟨_, rfl, .inl ⟨rfl, _, SqL.of eS8⟩, _, rfl, (by show 2 ≤ sizeLine; decide), fun t5 nt5 => ?_⟩
        have Z2 := Z1.new (o := .tup [.ref t4, .non]) nt5
        have z2 := same_new (o := .tup [.ref t4, .non]) (Z1.gh.free nt5)
        have eS9 := same_new (o := .tup [.ref t4, .non]) nt5 _ _ eS8
        have eR9 := same_new (o := .tup [.ref t4, .non]) nt5 _ _ eR8
        have sw2 := Src.ne (o := .tup [.ref t4, .non]) (H' := H) sw1 (ne_src sw1 nt5)
        have uS4 : S ≠ t4 := ne_of_none eS7 nt4
        have uS5 : S ≠ t5 := ne_of_none eS8 nt5
        have uR4 : R ≠ t4 := ne_of_none eR7 nt4
        have uR5 : R ≠ t5 := ne_of_none eR8 nt5
        have gS9 : (upd (upd G7 t4 (.tup [wp, .non])) t5 (.tup [.ref t4, .non])) S = none := by rw [upd_ne uS5, upd_ne uS4]; exact gS7
        have gR9 : (upd (upd G7 t4 (.tup [wp, .non])) t5 (.tup [.ref t4, .non])) R = none := by rw [upd_ne uR5, upd_ne uR4]; exact gR7
        refine ⟨S, zs ++ [.ref t3], .ref t5, rfl, rfl, eS9, by rw [List.length_append, lz]; exact small1000 (by rw [List.length_singleton]; omega), ?_⟩
        have z12 := z1.trans z2
        have rf4 : Rp (upd (upd G7 t4 (.tup [wp, .non])) t5 (.tup [.ref t4, .non])) (.ref t4) (fod [pl', none]) := .tup (z2 _ _ upd_same) (.cons (rp7.mono z12) (.cons .non .nil))
        have est2 : stF ⟨[none, none], none⟩ (l ++ [.op [(0, pl')]]) = ⟨[pl, none], some (.op [(0, pl')])⟩ := by rw [stF_app]; exact est1
        refine ⟨_, l ++ [.op [(0, pl')]] ++ [.shut], zs ++ [.ref t3] ++ [.ref t5], pl', .ref t4, _, _, _, _, rfl, ⟨Z2.mut gS9 (.inr nS0), Src.ne (H' := H) sw2 nSa, by rw [upd_ne nRS]; exact eR9, upd_same, gR9, gS9, ?_, ?_, ?_, ?_, hpl, rf4⟩⟩
        · rw [stsL_snoc, est2]
          exact (rz7.mono z12).snoc (.tup upd_same (.cons rf4 (.cons .non .nil)))
        · refine jOk_app (jOk_app I.j ⟨?_, trivial⟩) ⟨?_, trivial⟩
          · rw [I.st]
            exact ⟨rfl, by simp, by show 1 ≤ 24; decide, hk⟩
          · rw [est2]
            intro z
            cases z
        · rw [List.length_append, List.length_append, I.len]
          rfl
        · rw [stF_app, est2]
          rfl
      · obtain ⟨c, hx0, _⟩ : ∃ c, x0 = .ref c ∧ True := by
          rw [hpl0] at rx0
          obtain ⟨c, e, _⟩ := pd_some rx0
          exact ⟨c, e, trivial⟩
        refine ⟨_, rfl, av, _, 0, x0, rfl, rfl, SqT.of hav1, atI_nat (j := 0) rfl, rfl, _, rfl, iteDF (by rw [hx0]; intro z; cases z) ?_⟩
        have X12 : Xt [a] G1 K1 G1 K1 := Xt.refl I.x.gh
        have s2 : Src K1 a := I.s
        have rp : Rp G1 .non (pd none) := .non
        obtain ⟨G2, hG2⟩ : ∃ G2, G2 = G1 := ⟨_, rfl⟩
        obtain ⟨K2, hK2⟩ : ∃ K2, K2 = K1 := ⟨_, rfl⟩
        obtain ⟨pl', hpl'⟩ : ∃ p : Place, p = none := ⟨_, rfl⟩
        generalize hv : V.ref av = v at *
        have X12 : Xt [a] G1 K1 G2 K2 := by rw [hG2, hK2]; exact X12
        have s2 : Src K2 a := by rw [hK2]; exact s2
        have rp : Rp G2 .non (pd pl') := by rw [hG2, hpl']; exact rp
        rw [← hK2]
        have hne : pl ≠ pl' := by rw [hpl0, hpl']; intro z; cases z
        have hokp : okP [0, 1] 0 pl' := by rw [hpl']; trivial
        have hmay : mayGo [pl, none] 0 pl' := by rw [hpl']; trivial
        have hpl : pl' = none ∨ pl' = some (1, 0) := .inl hpl'
        have hk : hangsOk [0, 1] [] [pl, none] [(0, pl')] := ⟨by show 0 < 2; decide, by simp, by
          intro z
          have z' : pl = pl' := Option.some.inj z
          exact hne z', hokp, hmay, trivial⟩
        have so1 : StaOk [0, 1] (stF ⟨[none, none], none⟩ l) := jOk_ok ⟨good01, trivial⟩ I.j
        refine ⟨_, rfl, (by show 2 ≤ sizeLine; decide), fun t nt => ⟨(by show 1 ≤ sizeLine; decide), fun W nW => ?_⟩⟩
        have X3 := X12.new (o := .tup [.int 0, .non]) nt
        have gt := X12.gh.free nt
        have sgt := same_new (o := .tup [.int 0, .non]) gt
        have rt : Rp (upd G2 t (.tup [.int 0, .non])) (.ref t) (hd (0, pl')) := .tup upd_same (.cons (.int 0) (.cons (rp.mono sgt) .nil))
        have X4 := X3.newM (o := .lst [.ref t]) nW
        have sW : Src (upd K2 t (.tup [.int 0, .non])) a := Src.ne (H' := H) s2 (ne_src s2 nt)
        have s4 : Src (upd (upd K2 t (.tup [.int 0, .non])) W (.lst [.ref t])) a := Src.ne (H' := H) sW (ne_src sW nW)
        have eW : (upd (upd K2 t (.tup [.int 0, .non])) W (.lst [.ref t])) W = some (.lst [.ref t]) := upd_same
        have nWR : W ≠ R := (ne_of_none (X3.hh _ _ (by simpa using nRa) I.eR) nW).symm
        revert X4 rt s4 eW sgt X3 nW
        generalize upd (upd K2 t (.tup [.int 0, .non])) W (.lst [.ref t]) = K4
        generalize upd G2 t (.tup [.int 0, .non]) = G3
        intro nW X3 sgt rt X4 s4 eW
        have gA3 : G3 a = none := X4.nn _ _ (id I.s).choose_spec.choose_spec.1 gA1
        have eR4 : K4 R = some (.lst (rowsV [none, none] l)) := X4.hh _ _ (by simpa using nRa) I.eR
        have eS4 : K4 S = some (.lst zs) := X4.hh _ _ (by simpa using nSa) I.eS
        have gR3 : G3 R = none := X4.nn _ _ I.eR I.gR
        have gS3 : G3 S = none := X4.nn _ _ I.eS I.gS
        refine ⟨_, rfl, R, _, rfl, .inl (SqL.of eR4), _, _, rfl, ?_⟩
        rw [rowsV_len]
        have rW : RpA G3 [.ref t] ([(0, pl')].map hd) := .cons rt .nil
        have okh : okH [(0, pl')] := ⟨by show 1 ≤ 24; decide, fun x hx => by
          rw [List.mem_singleton.mp hx]
          exact ⟨by show 0 < 100; decide, okP_okw hokp (by decide) (fun i m e => ok01.le4 i m e)⟩⟩
        have hn4 : l.length + 1 < 10000 := by omega
        have l4 := num_len hn4
        have l42 := num_len (n := l.length + 2) (by omega)
        have lR : (rowsV [none, none] l).length = l.length + 1 := rowsV_len _ _
        refine ⟨_, rfl, .inl ⟨rfl, _, SqL.of eR4⟩, _, rfl, _, rfl, l.length + 1, W, [.ref t], [(0, pl')], rfl, hn4, eW, rW.mono X4.gh, okh, fun K5 s5 => ?_⟩
        refine ⟨_, rfl, _, _, rfl, rfl, _, rfl, lg (n := l.length + 2) (by omega), num (l.length + 2), _, rfl, rfl, ?_, ?_⟩
        · rw [num_mkS, lit_shut, mkS_len, mkS_len]; exact sz (by show _ + 6 ≤ 100000; omega)
        rw [shut_eq]
        have et1 : V.str (mkS (openL (l.length + 1) [(0, pl')])) = nlV (rowT (l.length + 1) (.op [(0, pl')])) := by
          unfold nlV
          rw [rowT_op]
        have et2 : V.str (mkS (shutL (l.length + 2))) = nlV (rowT (l.length + 2) .shut) := by
          unfold nlV
          rw [rowT_shut]
        rw [et1, et2]
        refine ⟨(by show 2 ≤ sizeLine; decide), fun E nE => ⟨R, E, rowsV [none, none] l, _, rfl, rfl, by rw [upd_ne (ne_of_none (s5 _ _ eR4) nE)]; exact s5 _ _ eR4, upd_same, Nat.le_of_lt (small1000 (by rw [lR, List.length_cons, List.length_singleton]; omega)), ?_⟩⟩
        have erow : rowsV [none, none] l ++ [nlV (rowT (l.length + 1) (.op [(0, pl')])), nlV (rowT (l.length + 2) .shut)] = rowsV [none, none] (l ++ [.op [(0, pl')]] ++ [.shut]) := by
          rw [rowsV_snoc, rowsV_snoc, List.append_assoc, List.length_append]
          rfl
        rw [erow]
        have X5 := (X4.trans (Xt.same X4.gh s5)).newM (o := .lst [nlV (rowT (l.length + 1) (.op [(0, pl')])), nlV (rowT (l.length + 2) .shut)]) nE
        have s5a := s4.same s5
        have X6 := (I.x.trans X5).mut (o := .lst (rowsV [none, none] (l ++ [.op [(0, pl')]] ++ [.shut]))) gR3 (.inr nR0)
        have s6 := Src.ne (o := .lst (rowsV [none, none] (l ++ [.op [(0, pl')]] ++ [.shut]))) (H' := H) (Src.ne (o := .lst [nlV (rowT (l.length + 1) (.op [(0, pl')])), nlV (rowT (l.length + 2) .shut)]) (H' := H) s5a (ne_src s5a nE)) nRa
        have eW6 : (upd (upd K5 E (.lst [nlV (rowT (l.length + 1) (.op [(0, pl')])), nlV (rowT (l.length + 2) .shut)])) R (.lst (rowsV [none, none] (l ++ [.op [(0, pl')]] ++ [.shut])))) W = some (.lst [.ref t]) := by
          rw [upd_ne nWR, upd_ne (ne_of_none (s5 _ _ eW) nE)]
          exact s5 _ _ eW
        have eS6 : (upd (upd K5 E (.lst [nlV (rowT (l.length + 1) (.op [(0, pl')])), nlV (rowT (l.length + 2) .shut)])) R (.lst (rowsV [none, none] (l ++ [.op [(0, pl')]] ++ [.shut])))) S = some (.lst zs) := by
          rw [upd_ne nRS.symm]
          exact X5.hh _ _ (by simpa using nSa) I.eS
        have eR6 : (upd (upd K5 E (.lst [nlV (rowT (l.length + 1) (.op [(0, pl')])), nlV (rowT (l.length + 2) .shut)])) R (.lst (rowsV [none, none] (l ++ [.op [(0, pl')]] ++ [.shut])))) R = some (.lst (rowsV [none, none] (l ++ [.op [(0, pl')]] ++ [.shut]))) := upd_same
        revert X6 s6 eW6 eS6 eR6
        generalize upd (upd K5 E (.lst [nlV (rowT (l.length + 1) (.op [(0, pl')])), nlV (rowT (l.length + 2) .shut)])) R (.lst (rowsV [none, none] (l ++ [.op [(0, pl')]] ++ [.shut]))) = K6
        intro X6 s6 eW6 eS6 eR6
        have lz : zs.length = l.length + 1 := by rw [I.rz.len, stsL_len]
        -- states.append((forest, ("open", tuple(row))))
        refine ⟨_, rfl, .inl ⟨rfl, _, SqL.of eS6⟩, _, rfl, _, rfl, W, _, rfl, .inl ⟨SqL.of eW6, fun t1 nt1 => ⟨(by show 2 ≤ sizeLine; decide), fun t2 nt2 => ⟨(by show 2 ≤ sizeLine; decide), fun t3 nt3 => ?_⟩⟩⟩⟩
        have Y1 := X6.new (o := .tup [.ref t]) nt1
        have Y2 := Y1.new (o := .tup [.str (Str.ofString "open"), .ref t1]) nt2
        have Y3 := Y2.new (o := .tup [v, .ref t2]) nt3
        have y1 := same_new (o := .tup [.ref t]) (X6.gh.free nt1)
        have y2 := same_new (o := .tup [.str (Str.ofString "open"), .ref t1]) (Y1.gh.free nt2)
        have y3 := same_new (o := .tup [v, .ref t2]) (Y2.gh.free nt3)
        have eS3 := same_new (o := .tup [v, .ref t2]) nt3 _ _ (same_new (o := .tup [.str (Str.ofString "open"), .ref t1]) nt2 _ _ (same_new (o := .tup [.ref t]) nt1 _ _ eS6))
        have eR3 := same_new (o := .tup [v, .ref t2]) nt3 _ _ (same_new (o := .tup [.str (Str.ofString "open"), .ref t1]) nt2 _ _ (same_new (o := .tup [.ref t]) nt1 _ _ eR6))
        have sv1 := Src.ne (o := .tup [.ref t]) (H' := H) s6 (ne_src s6 nt1)
        have sv2 := Src.ne (o := .tup [.str (Str.ofString "open"), .ref t1]) (H' := H) sv1 (ne_src sv1 nt2)
        have sv3 := Src.ne (o := .tup [v, .ref t2]) (H' := H) sv2 (ne_src sv2 nt3)
        have vS1 : S ≠ t1 := ne_of_none eS6 nt1
        have vS2 : S ≠ t2 := ne_of_none (same_new (o := .tup [.ref t]) nt1 _ _ eS6) nt2
        have vS3 : S ≠ t3 := ne_of_none (same_new (o := .tup [.str (Str.ofString "open"), .ref t1]) nt2 _ _ (same_new (o := .tup [.ref t]) nt1 _ _ eS6)) nt3
        have vR1 : R ≠ t1 := ne_of_none eR6 nt1
        have vR2 : R ≠ t2 := ne_of_none (same_new (o := .tup [.ref t]) nt1 _ _ eR6) nt2
        have vR3 : R ≠ t3 := ne_of_none (same_new (o := .tup [.str (Str.ofString "open"), .ref t1]) nt2 _ _ (same_new (o := .tup [.ref t]) nt1 _ _ eR6)) nt3
        have gS7 : (upd (upd (upd G3 t1 (.tup [.ref t])) t2 (.tup [.str (Str.ofString "open"), .ref t1])) t3 (.tup [v, .ref t2])) S = none := by rw [upd_ne vS3, upd_ne vS2, upd_ne vS1]; exact gS3
        have gR7 : (upd (upd (upd G3 t1 (.tup [.ref t])) t2 (.tup [.str (Str.ofString "open"), .ref t1])) t3 (.tup [v, .ref t2])) R = none := by rw [upd_ne vR3, upd_ne vR2, upd_ne vR1]; exact gR3
        have y13 := (y1.trans y2).trans y3
        have est1 : stepR (stF ⟨[none, none], none⟩ l) (.op [(0, pl')]) = ⟨[pl, none], some (.op [(0, pl')])⟩ := by rw [I.st]; rfl
        have rz7 : RpA (upd (upd (upd G3 t1 (.tup [.ref t])) t2 (.tup [.str (Str.ofString "open"), .ref t1])) t3 (.tup [v, .ref t2])) (zs ++ [.ref t3]) (stsL ⟨[none, none], none⟩ (l ++ [.op [(0, pl')]])) := by
          rw [stsL_snoc, est1]
          exact (I.rz.mono (X4.gg.trans y13)).snoc (.tup upd_same (.cons (I.v.mono (X4.gg.trans y13)) (.cons (.tup (y3 _ _ upd_same) (.cons (.str _) (.cons (.tup (y3 _ _ (y2 _ _ upd_same)) (rW.mono y13)) .nil))) .nil)))
        have rp7 := rp.mono (sgt.trans y13)
        refine ⟨S, zs, .ref t3, rfl, rfl, eS3, by rw [lz]; exact small1000 (by omega), ?_⟩
        have Y4 := Y3.mut (o := .lst (zs ++ [.ref t3])) gS7 (.inr nS0)
        have sv4 := Src.ne (o := .lst (zs ++ [.ref t3])) (H' := H) sv3 nSa
        have eR7 : (upd (upd (upd (upd K6 t1 (.tup [.ref t])) t2 (.tup [.str (Str.ofString "open"), .ref t1])) t3 (.tup [v, .ref t2])) S (.lst (zs ++ [.ref t3]))) R = some (.lst (rowsV [none, none] (l ++ [.op [(0, pl')]] ++ [.shut]))) := by rw [upd_ne nRS]; exact eR3
        have eS7 : (upd (upd (upd (upd K6 t1 (.tup [.ref t])) t2 (.tup [.str (Str.ofString "open"), .ref t1])) t3 (.tup [v, .ref t2])) S (.lst (zs ++ [.ref t3]))) S = some (.lst (zs ++ [.ref t3])) := upd_same
        revert Y4 sv4 eR7 eS7 rz7 rp7 gS7 gR7
        generalize upd (upd (upd (upd K6 t1 (.tup [.ref t])) t2 (.tup [.str (Str.ofString "open"), .ref t1])) t3 (.tup [v, .ref t2])) S (.lst (zs ++ [.ref t3])) = K7
        generalize upd (upd (upd G3 t1 (.tup [.ref t])) t2 (.tup [.str (Str.ofString "open"), .ref t1])) t3 (.tup [v, .ref t2]) = G7
        intro gS7 gR7 rz7 rp7 Y4 sv4 eR7 eS7
        -- forest = (place, None)
        refine ⟨_, rfl, (by show 2 ≤ sizeLine; decide), fun t4 nt4 => ?_⟩
        have Z1 := Y4.new (o := .tup [.non, .non]) nt4
        have z1 := same_new (o := .tup [.non, .non]) (Y4.gh.free nt4)
        have eS8 := same_new (o := .tup [.non, .non]) nt4 _ _ eS7
        have eR8 := same_new (o := .tup [.non, .non]) nt4 _ _ eR7
        have sw1 := Src.ne (o := .tup [.non, .non]) (H' := H) sv4 (ne_src sv4 nt4)
        refine ⟨_, rfl, .inl ⟨rfl, _, SqL.of eS8⟩, _, rfl, (by show 2 ≤ sizeLine; decide), fun t5 nt5 => ?_⟩
        have Z2 := Z1.new (o := .tup [.ref t4, .non]) nt5
        have z2 := same_new (o := .tup [.ref t4, .non]) (Z1.gh.free nt5)
        have eS9 := same_new (o := .tup [.ref t4, .non]) nt5 _ _ eS8
        have eR9 := same_new (o := .tup [.ref t4, .non]) nt5 _ _ eR8
        have sw2 := Src.ne (o := .tup [.ref t4, .non]) (H' := H) sw1 (ne_src sw1 nt5)
        have uS4 : S ≠ t4 := ne_of_none eS7 nt4
        have uS5 : S ≠ t5 := ne_of_none eS8 nt5
        have uR4 : R ≠ t4 := ne_of_none eR7 nt4
        have uR5 : R ≠ t5 := ne_of_none eR8 nt5
        have gS9 : (upd (upd G7 t4 (.tup [.non, .non])) t5 (.tup [.ref t4, .non])) S = none := by rw [upd_ne uS5, upd_ne uS4]; exact gS7
        have gR9 : (upd (upd G7 t4 (.tup [.non, .non])) t5 (.tup [.ref t4, .non])) R = none := by rw [upd_ne uR5, upd_ne uR4]; exact gR7
        refine ⟨S, zs ++ [.ref t3], .ref t5, rfl, rfl, eS9, by rw [List.length_append, lz]; exact small1000 (by rw [List.length_singleton]; omega), ?_⟩
        have z12 := z1.trans z2
        have rf4 : Rp (upd (upd G7 t4 (.tup [.non, .non])) t5 (.tup [.ref t4, .non])) (.ref t4) (fod [pl', none]) := .tup (z2 _ _ upd_same) (.cons (rp7.mono z12) (.cons .non .nil))
        have est2 : stF ⟨[none, none], none⟩ (l ++ [.op [(0, pl')]]) = ⟨[pl, none], some (.op [(0, pl')])⟩ := by rw [stF_app]; exact est1
        refine ⟨_, l ++ [.op [(0, pl')]] ++ [.shut], zs ++ [.ref t3] ++ [.ref t5], pl', .ref t4, _, _, _, _, rfl, ⟨Z2.mut gS9 (.inr nS0), Src.ne (H' := H) sw2 nSa, by rw [upd_ne nRS]; exact eR9, upd_same, gR9, gS9, ?_, ?_, ?_, ?_, hpl, rf4⟩⟩
        · rw [stsL_snoc, est2]
          exact (rz7.mono z12).snoc (.tup upd_same (.cons rf4 (.cons .non .nil)))
        · refine jOk_app (jOk_app I.j ⟨?_, trivial⟩) ⟨?_, trivial⟩
          · rw [I.st]
            exact ⟨rfl, by simp, by show 1 ≤ 24; decide, hk⟩
          · rw [est2]
            intro z
            cases z
        · rw [List.length_append, List.length_append, I.len]
          rfl
        · rw [stF_app, est2]
          rfl
    · rintro σ K1 ⟨G1, l, zs, pl, v, y4, y5, y6, y7, rfl, I⟩
      have hi1 : 50 ≤ (50 + (n : Int)).toNat ∧ (50 + (n : Int)).toNat ≤ 52 := by omega
      have ll := I.len
      have lt := jT_len [none, none] l
      have hfull : (((jT [none, none] l).map (· ++ [10])).flatten).length ≤ 90000 := by
        have z := flat_size (jT_size ok01 good01 I.j (by omega))
        rw [lt] at z
        omega
      have hfull2 : 101 ≤ (((jT [none, none] l).map (· ++ [10])).flatten).length := by
        have z := flat_ge (jT [none, none] l)
        rw [lt] at z
        omega
      refine ⟨⟨_, rfl⟩, _, rfl, _, R, ((jT [none, none] l).map (· ++ [10])).map mkS, rfl, rfl, .inl (SqL.of ?_), ?_, ?_⟩
      · rw [I.eR, List.map_map, List.map_map]
        rfl
      · have h2 : (Str.ofString "").length = 0 := by rw [lit_nil, mkS_len]; rfl
        rw [sum_flat, h2, Nat.mul_zero]
        exact len_le (by omega)
      rw [lit_nil, join_nil]
      refine ⟨_, rfl, by rw [mkS_len]; exact sz (by omega), ?_⟩
      rw [mkS_len]
      revert hfull hfull2
      generalize (((jT [none, none] l).map (· ++ [10])).flatten).length = size
      intro hfull hfull2
      have gA1 := I.x.nn _ _ hA ga
      refine ⟨_, rfl, _, rfl, _, _, rfl, rfl, _, rfl, a, 60, rfl, by decide, by decide, I.s, fun n1 b1 m1 h1 so1 => ⟨_, _, rfl, rfl, _, rfl, _, rfl, _, _, rfl, rfl, a, size + 1, rfl, by omega, by omega, Src.upd so1, fun n2 b2 m2 h2 so2 => ⟨(by show 3 ≤ sizeLine; decide), fun L nL => ?_⟩⟩⟩
      have Xa := ((Xt.refl (M := [a]) I.x.gh).mut (o := .lst [.int b1, .int m1]) gA1 (.inl aM)).mut (o := .lst [.int b2, .int m2]) gA1 (.inl aM)
      have sa2 : Src (upd (upd K1 a (.lst [.int b1, .int m1])) a (.lst [.int b2, .int m2])) a := Src.upd so2
      revert nL Xa sa2
      generalize upd (upd K1 a (.lst [.int b1, .int m1])) a (.lst [.int b2, .int m2]) = K2
      intro nL Xa sa2
      have eL : (upd K2 L (.lst [.int (size : Int), .int ((size : Int) - 1 - (n1 : Int)), .int (n2 : Int)])) L = some (.lst [.int (size : Int), .int ((size : Int) - 1 - (n1 : Int)), .int (n2 : Int)]) := upd_same
      have Xb := Xa.newM (o := .lst [.int (size : Int), .int ((size : Int) - 1 - (n1 : Int)), .int (n2 : Int)]) nL
      have sb := Src.ne (o := .lst [.int (size : Int), .int ((size : Int) - 1 - (n1 : Int)), .int (n2 : Int)]) (H' := H) sa2 (ne_src sa2 nL)
      refine ⟨L, rfl, ⟨_, SqL.of eL⟩, ?_⟩
      revert eL Xb sb
      generalize upd K2 L (.lst [.int (size : Int), .int ((size : Int) - 1 - (n1 : Int)), .int (n2 : Int)]) = K3
      intro eL Xb sb
      have eR3 : K3 R = some (.lst (rowsV [none, none] l)) := Xb.hh _ _ (by simpa using nRa) I.eR
      have eS3 : K3 S = some (.lst zs) := Xb.hh _ _ (by simpa using nSa) I.eS
      have rz3 := I.rz.mono Xb.gh
      refine for_list (xs := [.int (size : Int), .int ((size : Int) - 1 - (n1 : Int)), .int (n2 : Int)]) (fun i σ H' => ∃ y9 : Option V, σ = [some (.ref a), some (.ref R), some v, some (.ref S), y4, y5, y6, y7, some (.int (size : Int)), y9] ∧ Same K3 H') ⟨none, rfl, Same.refl _⟩ (fun i σ H' _ h => SqL.of (h.choose_spec.2 _ _ eL)) ?_ ?_
      · rintro j x σ K4 ex ⟨y9, rfl, s4⟩
        obtain ⟨nn, rfl⟩ : ∃ nn : Nat, x = .int (nn : Int) := by
          match j, ex with
          | 0, e => cases Option.some.inj e; exact ⟨_, rfl⟩
          | 1, e => cases Option.some.inj e; exact ⟨size - 1 - n1, congrArg V.int (by omega)⟩
          | 2, e => cases Option.some.inj e; exact ⟨_, rfl⟩
          | j + 3, e => cases e
        refine ⟨(by show 2 ≤ sizeLine; decide), fun tr ntr => ?_⟩
        have s5 := s4.trans (same_new (o := .tup [.int 0, .int 1]) ntr)
        refine ⟨_, rfl, _, rfl, _, rfl, .ref tr, R, S, [0, 1], [none, none], l, zs, nn, rfl, rd_mk upd_same, ok01, good01, I.j, by omega, s5 _ _ eR3, s5 _ _ eS3, rz3.mono s5, fun H' s' => ⟨true, rfl, iteF ?_⟩⟩
        exact ⟨_, rfl, s5.trans s'⟩
      · rintro σ K4 ⟨y9, rfl, s4⟩
        exact q _ _ ((I.x.trans Xb).trans (Xt.same Xb.gh s4)) (sb.same s4)
end
end KJ
set_option maxHeartbeats 4000000
namespace KJ
open PySem PySem.Spec PyProof.Rows L2 TL
theorem k64 {k : Nat} (h : k ≤ 3) : -(2 ^ 64) < (k : Int) ∧ (k : Int) < 2 ^ 64 := by
  have h2 : (2 : Int) ^ 64 = 18446744073709551616 := by decide
  omega
theorem zts_rp {H : Hp} : ∀ ns : List Int, RpA H (ns.map V.int) (ns.map PyData.int) := RpA.ints
theorem zts_lo : ∀ ns : List Int, loA 0 (ns.map PyData.int)
  | [] => .nil
  | _ :: r => .cons .int (zts_lo r)
theorem zts_dp {K : PySem.W.Frag} {H : Hp} : ∀ ns : List Int, DpAll K H (ns.map V.int) (ns.map PyData.int) := fun ns => (RpA.ints ns).dp
section
variable {P : Program} {w : World} {K : PySem.W.Frag} {mg : Str → Option Value} {base : Heap} {t1 t2 : Tok} {f : Addr} {fd : FuncData}
/-! ### _law_pool -/
def sp_pool (K : PySem.W.Frag) : Sp := fun vs H Q _ => ∃ (a : Addr) (ns : List Int) (k : Nat), vs = [.ref a, .int (k : Int)] ∧ SqL K H a (ns.map V.int) ∧ k ≤ 3 ∧ ns.length ≤ 63 ∧ ∀ H0 p b m, Same H H0 → H0 p = none → SrcOk b m → Q (.ref p) (upd H0 p (.lst [.int b, .int m]))
theorem ok_law_pool (T : Txt mg t1 t2) (F : FunT K "_law_pool" s_law_pool f fd) : FnOk P w K mg base CX0 1 f fd ["_law_script", "_law_k"] (sp_pool K) := by
  refine F.ok sc_law_pool (fun vs H Q E h => ?_) (fun cdv A outer s H vs Q E hr h => ?_)
  · obtain ⟨a, ns, k, rfl, _⟩ := h
    rfl
  · have hu64 := hu64_of hr
    obtain ⟨a, ns, k, rfl, hS, hk, hl, q⟩ := h
    refine ⟨_, (pss_cons (ps_set (i := 2) sc_law_pool.nd rfl (Or.inl rfl) pe_int)
      (pss_cons (ps_if (pt_cmpR op_lt (pv 1) (pe_callB call_len_seq (by rfl) T.len (by decide +kernel) (pa_cons (pv 0) pa_nil)) (nomark _)) (pss_one (ps_set (i := 2) sc_law_pool.nd rfl (Or.inl rfl) (pe_ix (r := rIxL K) ix_list (pv 0) (pv 1) (fun _ _ => rfl)))) (pss_one (ps_if (pt_cmpR (r := rNeD K) (op_neD hu64) (pv 0) (pe_lst pa_nil) (nomark _)) (pss_one (ps_set (i := 2) sc_law_pool.nd rfl (Or.inl rfl) (pe_ix (r := rIxL K) ix_list (pv 0) pe_int (fun _ _ => rfl)))) pss_nil)))
      (pss_cons (ps_set (i := 3) sc_law_pool.nd rfl (Or.inl rfl) (pe_callB (call_max2 rfl) (by rfl) T.max (by decide +kernel) (pa_cons (pe_callTy call_int1 (by rfl) T.int (by decide +kernel) (pa_cons (pv 2) pa_nil)) (pa_cons (pe_callTy call_int1 (by rfl) T.int (by decide +kernel) (pa_cons (pe_op op_sub (pe_un un_neg pe_int) (pv 2)) pa_nil)) pa_nil))))
      (pss_cons (ps_set (i := 4) sc_law_pool.nd rfl (Or.inl rfl) (pe_op op_mod (pe_callTy call_int1 (by rfl) T.int (by decide +kernel) (pa_cons (pe_op op_mul (pe_op op_add (pe_op op_add (pe_op op_add (pe_op op_mod (pe_callTy call_int1 (by rfl) T.int (by decide +kernel) (pa_cons (pv 3) pa_nil)) pe_int) (pe_op op_mul (pe_op op_mul pe_int (pv 1)) (pv 1))) (pe_op op_mul pe_int (pv 1))) pe_int) pe_int) pa_nil)) pe_int))
      (pss_one (ps_ret (pe_lst (pa_cons (pe_op op_mul (pv 3) (pe_callTy call_int1 (by rfl) T.int (by decide +kernel) (pa_cons (pe_and (pe_cmpR op_ge (pv 3) (pe_op op_pow pe_int pe_int) (nomark _)) (pe_one (pe_cmpR op_lt (pv 1) (pe_callB call_len_seq (by rfl) T.len (by decide +kernel) (pa_cons (pv 0) pa_nil)) (nomark _)))) pa_nil))) (pa_cons (pv 4) pa_nil))))))))), ?_⟩
    refine ⟨_, rfl, _, rfl, a, _, rfl, .inl hS, _, _, rfl, rfl, _, rfl, ?_⟩
    by_cases hlt : k < ns.length
    · refine iteD (by rw [List.length_map]; omega) ?_
      obtain ⟨c, hc⟩ : ∃ c, ns[k]? = some c := ⟨_, List.getElem?_eq_getElem hlt⟩
      refine ⟨_, rfl, _, rfl, a, _, _, _, rfl, rfl, hS, atI_nat (v := .int c) (by rw [List.getElem?_map, hc]; rfl), ?_⟩
      have sK : Same H H := Same.refl _
      refine ⟨_, rfl, .inl ⟨_, rfl, 1, rfl, _, rfl, _, _, rfl, rfl, .inl ⟨_, rfl, _, _, rfl, ?_⟩⟩⟩
      have hB : 0 ≤ (if -1 - c > c then -1 - c else c) := by
        split
        · omega
        · omega
      revert hB
      generalize (if -1 - c > c then -1 - c else c) = B
      intro hB
      refine ⟨_, rfl, .inl ⟨_, rfl, _, _, rfl, rfl, (by show (0 : Int) < _; decide), _, rfl, _, _, rfl, rfl, .inl ⟨by decide, by decide⟩, _, rfl, _, _, rfl, rfl, .inr (k64 hk), _, _, rfl, rfl, _, rfl, _, _, rfl, rfl, .inl ⟨by decide, by decide⟩, _, _, rfl, rfl, _, _, rfl, rfl, _, _, rfl, rfl, .inr ⟨by decide, by decide⟩, .inl ⟨_, rfl, _, _, rfl, rfl, (by show (0 : Int) < _; decide), ?_⟩⟩⟩
      have hM := fun z : Int => (show SrcOk 0 (z % 2147483647) from ⟨Int.le_refl 0, Int.emod_nonneg _ (by decide), Int.emod_lt_of_pos _ (by decide)⟩)
      refine ⟨_, rfl, _, rfl, _, _, rfl, rfl, ⟨by decide, by decide, by decide⟩, _, _, rfl, rfl, _, rfl, ?_⟩
      by_cases hge : B ≥ (10 : Int) ^ (18 : Int).toNat
      · refine iteD hge ?_
        refine ⟨_, rfl, _, rfl, a, _, rfl, .inl (sK.seq hS), _, _, rfl, rfl, .inr ⟨_, rfl, _, _, rfl, rfl, .inr ?_, _, rfl, (by show 2 ≤ sizeLine; decide), fun p np => ?_⟩⟩
        · have h2 : (2 : Int) ^ 64 = 18446744073709551616 := by decide
          split
          · omega
          · omega
        · refine q _ p _ _ sK np ⟨?_, (hM _).2.1, (hM _).2.2⟩
          refine Int.mul_nonneg hB ?_
          split
          · decide
          · decide
      · refine iteDF hge ?_
        refine .inr ⟨_, rfl, _, _, rfl, rfl, .inr ⟨by decide, by decide⟩, _, rfl, (by show 2 ≤ sizeLine; decide), fun p np => ?_⟩
        refine q _ p _ _ sK np ⟨?_, (hM _).2.1, (hM _).2.2⟩
        show 0 ≤ B * 0
        omega
    · refine iteDF (by rw [List.length_map]; omega) ?_
      refine ⟨_, rfl, Nat.zero_le _, fun z nz => ?_⟩
      have sK := same_new (o := .lst []) nz
      have ez : (upd H z (.lst [])) z = some (.lst []) := upd_same
      revert sK ez
      generalize upd H z (.lst []) = Kx
      intro sK ez
      refine ⟨.list (ns.map PyData.int), .list [], .lst (sK.seq hS) (zts_dp ns), Rp.dp (.lst ez .nil), (lo.lst (zts_lo ns)).shaped (by decide), by rfl, _, rfl, ?_⟩
      cases ns with
      | nil =>
        refine iteF ?_
        refine ⟨_, rfl, .inl ⟨_, rfl, 1, rfl, _, rfl, _, _, rfl, rfl, .inl ⟨_, rfl, _, _, rfl, ?_⟩⟩⟩
        have hB : 0 ≤ (if -1 - (0 : Int) > (0 : Int) then -1 - (0 : Int) else (0 : Int)) := by
          split
          · omega
          · omega
        revert hB
        generalize (if -1 - (0 : Int) > (0 : Int) then -1 - (0 : Int) else (0 : Int)) = B
        intro hB
        refine ⟨_, rfl, .inl ⟨_, rfl, _, _, rfl, rfl, (by show (0 : Int) < _; decide), _, rfl, _, _, rfl, rfl, .inl ⟨by decide, by decide⟩, _, rfl, _, _, rfl, rfl, .inr (k64 hk), _, _, rfl, rfl, _, rfl, _, _, rfl, rfl, .inl ⟨by decide, by decide⟩, _, _, rfl, rfl, _, _, rfl, rfl, _, _, rfl, rfl, .inr ⟨by decide, by decide⟩, .inl ⟨_, rfl, _, _, rfl, rfl, (by show (0 : Int) < _; decide), ?_⟩⟩⟩
        have hM := fun z : Int => (show SrcOk 0 (z % 2147483647) from ⟨Int.le_refl 0, Int.emod_nonneg _ (by decide), Int.emod_lt_of_pos _ (by decide)⟩)
        refine ⟨_, rfl, _, rfl, _, _, rfl, rfl, ⟨by decide, by decide, by decide⟩, _, _, rfl, rfl, _, rfl, ?_⟩
        by_cases hge : B ≥ (10 : Int) ^ (18 : Int).toNat
        · refine iteD hge ?_
          refine ⟨_, rfl, _, rfl, a, _, rfl, .inl (sK.seq hS), _, _, rfl, rfl, .inr ⟨_, rfl, _, _, rfl, rfl, .inr ?_, _, rfl, (by show 2 ≤ sizeLine; decide), fun p np => ?_⟩⟩
          · have h2 : (2 : Int) ^ 64 = 18446744073709551616 := by decide
            split
            · omega
            · omega
          · refine q _ p _ _ sK np ⟨?_, (hM _).2.1, (hM _).2.2⟩
            refine Int.mul_nonneg hB ?_
            split
            · decide
            · decide
        · refine iteDF hge ?_
          refine .inr ⟨_, rfl, _, _, rfl, rfl, .inr ⟨by decide, by decide⟩, _, rfl, (by show 2 ≤ sizeLine; decide), fun p np => ?_⟩
          refine q _ p _ _ sK np ⟨?_, (hM _).2.1, (hM _).2.2⟩
          show 0 ≤ B * 0
          omega
      | cons c nr =>
        refine iteT ?_
        refine ⟨_, rfl, a, _, 0, _, rfl, rfl, sK.seq hS, atI_nat (j := 0) (v := .int c) rfl, ?_⟩
        refine ⟨_, rfl, .inl ⟨_, rfl, 1, rfl, _, rfl, _, _, rfl, rfl, .inl ⟨_, rfl, _, _, rfl, ?_⟩⟩⟩
        have hB : 0 ≤ (if -1 - c > c then -1 - c else c) := by
          split
          · omega
          · omega
        revert hB
        generalize (if -1 - c > c then -1 - c else c) = B
        intro hB
        refine ⟨_, rfl, .inl ⟨_, rfl, _, _, rfl, rfl, (by show (0 : Int) < _; decide), _, rfl, _, _, rfl, rfl, .inl ⟨by decide, by decide⟩, _, rfl, _, _, rfl, rfl, .inr (k64 hk), _, _, rfl, rfl, _, rfl, _, _, rfl, rfl, .inl ⟨by decide, by decide⟩, _, _, rfl, rfl, _, _, rfl, rfl, _, _, rfl, rfl, .inr ⟨by decide, by decide⟩, .inl ⟨_, rfl, _, _, rfl, rfl, (by show (0 : Int) < _; decide), ?_⟩⟩⟩
        have hM := fun z : Int => (show SrcOk 0 (z % 2147483647) from ⟨Int.le_refl 0, Int.emod_nonneg _ (by decide), Int.emod_lt_of_pos _ (by decide)⟩)
        refine ⟨_, rfl, _, rfl, _, _, rfl, rfl, ⟨by decide, by decide, by decide⟩, _, _, rfl, rfl, _, rfl, ?_⟩
        by_cases hge : B ≥ (10 : Int) ^ (18 : Int).toNat
        · refine iteD hge ?_
          refine ⟨_, rfl, _, rfl, a, _, rfl, .inl (sK.seq hS), _, _, rfl, rfl, .inr ⟨_, rfl, _, _, rfl, rfl, .inr ?_, _, rfl, (by show 2 ≤ sizeLine; decide), fun p np => ?_⟩⟩
          · have h2 : (2 : Int) ^ 64 = 18446744073709551616 := by decide
            split
            · omega
            · omega
          · refine q _ p _ _ sK np ⟨?_, (hM _).2.1, (hM _).2.2⟩
            refine Int.mul_nonneg hB ?_
            split
            · decide
            · decide
        · refine iteDF hge ?_
          refine .inr ⟨_, rfl, _, _, rfl, rfl, .inr ⟨by decide, by decide⟩, _, rfl, (by show 2 ≤ sizeLine; decide), fun p np => ?_⟩
          refine q _ p _ _ sK np ⟨?_, (hM _).2.1, (hM _).2.2⟩
          show 0 ≤ B * 0
          omega
/-! ### law -/
def spLaw (K : PySem.W.Frag) : Sp := fun vs H Q _ => ∃ (a : Addr) (ns : List Int), vs = [.ref a] ∧ SqL K H a (ns.map V.int) ∧ ns.length ≤ 63 ∧ ∀ H', Q (.bl true) H'
theorem lit_b0 : Str.ofString "0 base\n" = mkS (baseL []) := by decide +kernel
theorem lit_b1 : Str.ofString "0 base\n" = mkS (joinL [10] (jT [] [] ++ [[]])) := by decide +kernel
theorem lit_o1 : Str.ofString "10 open 1:- 0:1.2\n" = mkS (openL 10 [(1, none), (0, some (1, 2))]) := by decide +kernel
theorem lit_l1 : Str.ofString "3 lay 1.0 -\n" = mkS (layL 3 [some (1, 0), none]) := by decide +kernel
theorem turns_is (L : Int) (h : 0 ≤ L) : 1 ≤ (if (if 3 < L then 3 else L) > 1 then (if 3 < L then 3 else L) else 1) ∧ (if (if 3 < L then 3 else L) > 1 then (if 3 < L then 3 else L) else (1 : Int)) ≤ 3 := by
  by_cases h1 : 3 < L
  · rw [if_pos h1]
    decide
  · rw [if_neg h1]
    split
    · omega
    · omega
theorem ok_law {C : Addr} (T : Txt mg t1 t2) (J : JF P w K mg base C) (c_law_pool : Cal P w K mg base 1 "_law_pool" (sp_pool K)) (c_law_take : Cal P w K mg base 1 "_law_take" sp_take) (c_law_rooms : Cal P w K mg base 3 "_law_rooms" sp_rooms) (c_law_grown : Cal P w K mg base 3 "_law_grown" sp_grown)
    (c_law_journal : Cal P w K mg base 5 "_law_journal" sp_journal) (c_law_read_right : Cal P w K mg base 8 "_law_read_right" sp_read_right) (c_law_texts_right : Cal P w K mg base 5 "_law_texts_right" sp_texts_right) (c_law_long_right : Cal P w K mg base 9 "_law_long_right" sp_long_right)
    (c_base_text : Cal P w K mg base 3 "base_text" sp_base_text) (c_lay_text : Cal P w K mg base 3 "lay_text" sp_lay_text) (c_open_text : Cal P w K mg base 2 "open_text" sp_open_text)
    (F : FunT K "law" s_law f fd) : FnOk P w K mg base CX0 10 f fd ["_law_script"] (spLaw K) := by
  refine F.ok sc_law (fun vs H Q E h => ?_) (fun cdv A outer s H vs Q E hr h => ?_)
  · obtain ⟨a, ns, rfl, _⟩ := h
    rfl
  · have hu64 := hu64_of hr
    obtain ⟨fJ, fdJ, GJ, mJ, kJ, bJ⟩ := J.ex
    obtain ⟨a, ns, rfl, hS, hl, q⟩ := h
    refine ⟨_, (pss_cons (ps_if (PW.pt (pw_or (pt_cmpR op_ne (pe_c c_base_text hr (by decide) rfl (pa_cons (pe_tup pa_nil) pa_nil)) pe_str (nomark _)) (pw_or1 (pt_cmpR (r := rNeD K) (op_neD hu64) (pe_call GJ (hr.mono (by decide)) rfl mJ kJ bJ .nil passL (pa_cons (pe_tup pa_nil) (pa_cons pe_str pa_nil))) (pe_tup (pa_cons pe_int (pa_cons (pe_tup pa_nil) (pa_cons pe_non (pa_cons pe_str pa_nil))))) (nomark _))))) (pss_one (ps_ret pe_bl)) pss_nil)
      (pss_cons (ps_if (PW.pt (pw_or (pt_cmpR op_ne (pe_c c_open_text hr (by decide) rfl (pa_cons pe_int (pa_cons (pe_tup (pa_cons (pe_tup (pa_cons pe_int (pa_cons pe_non pa_nil))) (pa_cons (pe_tup (pa_cons pe_int (pa_cons (pe_tup (pa_cons pe_int (pa_cons pe_int pa_nil))) pa_nil))) pa_nil))) pa_nil))) pe_str (nomark _)) (pw_or1 (pt_cmpR op_ne (pe_c c_lay_text hr (by decide) rfl (pa_cons pe_int (pa_cons (pe_tup (pa_cons (pe_tup (pa_cons pe_int (pa_cons pe_int pa_nil))) (pa_cons pe_non pa_nil))) pa_nil))) pe_str (nomark _))))) (pss_one (ps_ret pe_bl)) pss_nil)
      (pss_cons (ps_for PassesOwn.never rfl (pi_range1 (by rfl) T.range (pa_cons (pe_callB (call_max2 rfl) (by rfl) T.max (by decide +kernel) (pa_cons pe_int (pa_cons (pe_callB (call_min2 rfl) (by rfl) T.min (by decide +kernel) (pa_cons (pe_callB call_len_seq (by rfl) T.len (by decide +kernel) (pa_cons (pv 0) pa_nil)) (pa_cons pe_int pa_nil))) pa_nil))) pa_nil)) (pg_name (i := 1) sc_law.nd rfl (Or.inl rfl)) (pss_cons (ps_set (i := 2) sc_law.nd rfl (Or.inr rfl) (pe_c c_law_pool hr (by decide) rfl (pa_cons (pv 0) (pa_cons (pv 1) pa_nil))))
      (pss_cons (ps_set (i := 3) sc_law.nd rfl (Or.inl rfl) (pe_ifExp (pt_cmpR op_eq (pe_c c_law_take hr (by decide) rfl (pa_cons (pv 2) (pa_cons pe_int pa_nil))) pe_int (nomark _)) pe_int (pe_op op_add pe_int (pe_c c_law_take hr (by decide) rfl (pa_cons (pv 2) (pa_cons pe_int pa_nil))))))
      (pss_cons (ps_set (i := 4) sc_law.nd rfl (Or.inl rfl) (pe_c c_law_rooms hr (by decide) rfl (pa_cons (pv 2) (pa_cons (pv 3) pa_nil))))
      (pss_cons (ps_if (PW.pt (pw_and (pt_cmpR op_eq (pe_c c_law_take hr (by decide) rfl (pa_cons (pv 2) (pa_cons pe_int pa_nil))) pe_int (nomark _)) (pw_and1 (pt_not (pt_val (pe_c c_law_long_right hr (by decide) rfl (pa_cons (pv 2) pa_nil))))))) (pss_one (ps_ret pe_bl)) pss_nil)
      (pss_cons (ps_set (i := 5) sc_law.nd rfl (Or.inl rfl) (pe_c c_law_grown hr (by decide) rfl (pa_cons (pv 2) (pa_cons (pv 4) pa_nil))))
      (pss_cons (ps_asg (pe_c c_law_journal hr (by decide) rfl (pa_cons (pv 2) (pa_cons (pv 4) (pa_cons (pv 5) pa_nil)))) (pg_tup rfl (pgs_cons (pg_name (i := 6) sc_law.nd rfl (Or.inl rfl)) (pgs_cons (pg_name (i := 7) sc_law.nd rfl (Or.inl rfl)) pgs_nil))))
      (pss_cons (ps_asg (pe_tup (pa_cons pe_int (pa_cons (pe_lst pa_nil) pa_nil))) (pg_tup rfl (pgs_cons (pg_name (i := 8) sc_law.nd rfl (Or.inr rfl)) (pgs_cons (pg_name (i := 9) sc_law.nd rfl (Or.inl rfl)) pgs_nil))))
      (pss_cons (ps_for PassesOwn.never rfl (pi_list (pv 6)) (pg_name (i := 10) sc_law.nd rfl (Or.inl rfl)) (pss_cons (ps_set (i := 8) sc_law.nd rfl (Or.inr rfl) (pe_op op_add (pv 8) (pe_callB call_len_str (by rfl) T.len (by decide +kernel) (pa_cons (pv 10) pa_nil))))
      (pss_one (ps_expr (pe_bm PySem.F.plainAttrs_list PySem.F.slot_list_append PySem.F.type_list_append mt_append (pv 9) (pa_cons (pv 8) pa_nil))))))
      (pss_cons (ps_for PassesOwn.never rfl (pi_list (pe_op op_cat (pv 9) (pe_lc (own := [("_law_turn", 12)]) (g := gName 12) (tt := tYes) (by rfl) sc_law.nd (pi_range1 (by rfl) T.range (pa_cons pe_int pa_nil)) (blkOk_by (own := [("_law_turn", 12)]) (N := N_law) (sc := defScope s_law) (by decide +kernel)) (fun _ _ _ _ _ => (pg_name (i := 12) sc_law.nd rfl (Or.inl rfl))) (fun _ _ _ _ _ => pts_nil) (fun _ _ _ _ _ => (pe_c c_law_take hr (by decide) rfl (pa_cons (pv 2) (pa_cons (pe_op op_add (pv 8) pe_int) pa_nil))))))) (pg_name (i := 11) sc_law.nd rfl (Or.inl rfl)) (pss_one (ps_if (pt_not (pt_val (pe_c c_law_read_right hr (by decide) rfl (pa_cons (pv 4) (pa_cons (pv 6) (pa_cons (pv 7) (pa_cons (pv 11) pa_nil))))))) (pss_one (ps_ret pe_bl)) pss_nil)))
      (pss_one (ps_if (pt_not (pt_val (pe_c c_law_texts_right hr (by decide) rfl (pa_cons (pv 2) (pa_cons (pv 4) (pa_cons (pv 5) pa_nil)))))) (pss_one (ps_ret pe_bl)) pss_nil))))))))))))
      (pss_one (ps_ret pe_bl))))), ?_⟩
    refine ⟨Nat.zero_le _, fun t0 nt0 => ⟨.ref t0, [], rfl, .tup upd_same .nil, ⟨by decide, fun p h => absurd h List.not_mem_nil⟩, fun H1 s1 => ⟨rfl, _, rfl, iteNS (by rw [lit_b0]) ?_⟩⟩⟩
    have sa1 := (same_new (o := .tup []) nt0).trans s1
    refine ⟨Nat.zero_le _, fun t1 nt1 => .inl ⟨_, .ref t1, [], [], [], [], by rw [lit_b1]; rfl, Same.refl _, rd_mk upd_same, ⟨by decide, fun i m e => by simp at e⟩, Good.floor [], trivial, by decide, by decide +kernel, by decide, fun G2 H2 u X2 ru => ⟨Nat.zero_le _, fun t2 nt2 => ⟨(by show 4 ≤ sizeLine; decide), fun t3 nt3 => ?_⟩⟩⟩⟩
    have sa2 := (sa1.trans (same_new (o := .tup []) nt1)).trans (X2.gg.trans X2.gh)
    have sb := same_new (o := .tup []) nt2
    have sc := same_new (o := .tup [.int 1, .ref t2, .non, .str (Str.ofString "")]) nt3
    have rE : Rp (upd (upd H2 t2 (.tup [])) t3 (.tup [.int 1, .ref t2, .non, .str (Str.ofString "")])) (.ref t3) (toldD [] [] []) := by
      refine .tup upd_same (.cons (.int 1) (.cons (.tup (sc _ _ upd_same) .nil) (.cons .non (.cons ?_ .nil))))
      rw [lit_nil]
      exact .str _
    have ruE := ((ru.mono X2.gh).mono sb).mono sc
    have L0 := lo_told [] [] [] (by decide)
    refine ⟨_, _, ruE.dp, rE.dp, L0.shaped (by decide), L0.shaped (by decide), _, rfl, ?_⟩
    rw [SeqAt.eqv_refl _ L0.1]
    refine iteF ?_
    have sa3 := (sa2.trans sb).trans sc
    revert sa3
    generalize upd (upd H2 t2 (.tup [])) t3 (.tup [.int 1, .ref t2, .non, .str (Str.ofString "")]) = H3
    intro sa3
    -- the second test
    refine ⟨(by show 2 ≤ sizeLine; decide), fun t4 nt4 => ⟨(by show 2 ≤ sizeLine; decide), fun t5 nt5 => ⟨(by show 2 ≤ sizeLine; decide), fun t6 nt6 => ⟨(by show 2 ≤ sizeLine; decide), fun t7 nt7 => ?_⟩⟩⟩⟩
    have s4 := same_new (o := .tup [.int 1, .non]) nt4
    have s5 := same_new (o := .tup [.int 1, .int 2]) nt5
    have s6 := same_new (o := .tup [.int 0, .ref t5]) nt6
    have s7 := same_new (o := .tup [.ref t4, .ref t6]) nt7
    refine ⟨10, .ref t7, [(1, none), (0, some (1, 2))], rfl, by decide, .tup upd_same (.cons (.tup (s7 _ _ (s6 _ _ (s5 _ _ upd_same))) (.cons (.int 1) (.cons .non .nil))) (.cons (.tup (s7 _ _ upd_same) (.cons (.int 0) (.cons (.tup (s7 _ _ (s6 _ _ upd_same)) (.cons (.int 1) (.cons (.int 2) .nil))) .nil))) .nil)), ⟨by decide, fun x hx => ?_⟩, fun H8 s8 => ⟨rfl, _, rfl, iteNS (by rw [lit_o1]) ?_⟩⟩
    · rcases List.mem_cons.mp hx with rfl | hx
      · exact ⟨by decide, trivial⟩
      · rw [List.mem_singleton.mp hx]
        exact ⟨by decide, by decide, by decide⟩
    have sa8 := ((((sa3.trans s4).trans s5).trans s6).trans s7).trans s8
    refine ⟨(by show 2 ≤ sizeLine; decide), fun t9 nt9 => ⟨(by show 2 ≤ sizeLine; decide), fun t10 nt10 => ?_⟩⟩
    have s9 := same_new (o := .tup [.int 1, .int 0]) nt9
    have s10 := same_new (o := .tup [.ref t9, .non]) nt10
    refine ⟨3, .ref t10, [some (1, 0), none], rfl, by decide, .tup upd_same (.cons (.tup (s10 _ _ upd_same) (.cons (.int 1) (.cons (.int 0) .nil))) (.cons .non .nil)), ⟨by decide, fun x hx => ?_⟩, fun H11 s11 => ⟨rfl, _, rfl, iteNS (by rw [lit_l1]) ?_⟩⟩
    · rcases List.mem_cons.mp hx with rfl | hx
      · exact ⟨by decide, by decide⟩
      · rw [List.mem_singleton.mp hx]
        trivial
    have sa11 := ((sa8.trans s9).trans s10).trans s11
    -- the turns
    have hN := turns_is ((ns.map V.int).length : Int) (by omega)
    have h62 : (2 : Int) ^ 62 = 4611686018427387904 := by decide
    refine ⟨_, rfl, a, _, rfl, .inl (sa11.seq hS), _, _, rfl, _, _, rfl, _, rfl, by omega, by omega, for_range (fun i σ H' => ∃ y1 y2 y3 y4 y5 y6 y7 y8 y9 y10 y11 : Option V, σ = [some (.ref a), y1, y2, y3, y4, y5, y6, y7, y8, y9, y10, y11, none] ∧ Same H11 H') ⟨none, none, none, none, none, none, none, none, none, none, none, rfl, Same.refl _⟩ ?_ ?_⟩
    · rintro k σ Hi hi ⟨y1, y2, y3, y4, y5, y6, y7, y8, y9, y10, y11, rfl, sA⟩
      rw [Int.zero_add]
      have hk : k ≤ 3 := by omega
      refine ⟨_, rfl, _, rfl, a, ns, k, rfl, (sa11.trans sA).seq hS, hk, hl, fun H0 p b m s0 np so => ?_⟩
      have gp : H0 p = none := np
      have e1 : (upd H0 p (.lst [.int b, .int m])) p = some (.lst [.int b, .int m]) := upd_same
      have X0 : Xt [p] H0 (upd H0 p (.lst [.int b, .int m])) H0 (upd H0 p (.lst [.int b, .int m])) := Xt.refl (same_new np)
      have q0 : Src (upd H0 p (.lst [.int b, .int m])) p := Src.upd so
      refine ⟨_, rfl, p, 8, rfl, by decide, by decide, q0, fun n8 b8 m8 h8 so8 => ⟨rfl, _, rfl, ?_⟩⟩
      have X1 := X0.mut (o := .lst [.int b8, .int m8]) gp (.inl (List.mem_singleton.mpr rfl))
      have q1 : Src (upd (upd H0 p (.lst [.int b, .int m])) p (.lst [.int b8, .int m8])) p := Src.upd so8
      revert X1 q1
      generalize upd (upd H0 p (.lst [.int b, .int m])) p (.lst [.int b8, .int m8]) = Ka
      intro X1 q1
      by_cases h80 : n8 = 0
      · refine iteD (by rw [h80]; rfl) ?_
        obtain ⟨many, hmn⟩ : ∃ many : Nat, many = 24 := ⟨_, rfl⟩
        have hmany : many ≤ 24 := by omega
        have hmv : V.int 24 = V.int (many : Int) := by rw [hmn]; rfl
        rw [hmv]
        have Xm := X1
        have sm := q1
        refine ⟨_, rfl, _, rfl, H0, p, many, rfl, Xm.gh, gp, sm, hmany, fun G2 H2 u rs X2 s2 hrs ok ru => ?_⟩
        have Xn := Xm.trans X2
        have gp2 := Xn.nn _ _ e1 gp
        refine ⟨_, rfl, p, 16, rfl, by decide, by decide, s2, fun n16 b16 m16 h16 so16 => ⟨rfl, _, rfl, ?_⟩⟩
        have Xo := Xn.mut (o := .lst [.int b16, .int m16]) gp2 (.inl (List.mem_singleton.mpr rfl))
        have so := Src.upd (H := H2) (a := p) so16
        revert Xo so
        generalize upd H2 p (.lst [.int b16, .int m16]) = Kc
        intro Xo so
        by_cases h0 : n16 = 0
        · refine iteD (by rw [h0]; rfl) ?_
          refine ⟨_, rfl, G2, p, rfl, Xo.gh, gp2, so, fun Gb Kb Xl sb => ⟨true, rfl, iteF ?_⟩⟩
          have X := Xo.trans Xl
          have rub := ru.mono Xl.gg
          -- forest
          have gpb : Gb p = none := X.nn _ _ e1 gp
          refine ⟨_, rfl, _, rfl, Gb, p, u, rs, rfl, X.gh, gpb, sb, rub, ok, fun G4 H4 v g X4 s4 gd rv => ?_⟩
          have XX4 := X.trans X4
          have gp4 := XX4.nn _ _ e1 gp
          -- rows, states
          refine ⟨_, rfl, _, rfl, _, rfl, G4, p, u, v, rs, g, rfl, X4.gh, gp4, s4, rub.mono X4.gg, rv, ok, gd, fun G5 H5 t R S zs l X5 s5 et nRp nSp eR eS rz jok l5 => ⟨t, _, rfl, SqT.of (X5.gh _ _ et), rfl, _, _, rfl, _, _, rfl, rfl, ?_⟩⟩
          have XX5 := XX4.trans X5
          have gp5 := XX5.nn _ _ e1 gp
          have ru5 := (rub.mono X4.gg).mono X5.gg
          have rv5 := rv.mono X5.gg
          have lt := jT_len g l
          have hfull : (((jT g l).map (· ++ [10])).flatten).length ≤ 90000 := by
            have z := flat_size (jT_size ok gd jok (by omega))
            rw [lt] at z
            omega
          -- size, ends
          refine ⟨Nat.zero_le _, fun D nD => ⟨(by show 2 ≤ sizeLine; decide), fun tt ntt => ⟨tt, _, rfl, SqT.of upd_same, rfl, _, _, rfl, _, _, rfl, rfl, ?_⟩⟩⟩
          have Y0 := ((Xt.refl (M := [p]) XX5.gh).newM (o := .lst []) nD).newM (o := .tup [.int 0, .ref D]) ntt
          have nDtt : D ≠ tt := ne_of_none upd_same ntt
          have nDp : D ≠ p := ne_src s5 nD
          have gD5 : G5 D = none := XX5.gh.free nD
          have sY0 : Src (upd (upd H5 D (.lst [])) tt (.tup [.int 0, .ref D])) p := by
            have z := Src.ne (o := .lst []) (H' := H5) s5 nDp
            exact Src.ne (H' := H5) z (ne_src z ntt)
          have eD0 : (upd (upd H5 D (.lst [])) tt (.tup [.int 0, .ref D])) D = some (.lst (nts [])) := by rw [upd_ne nDtt]; exact upd_same
          revert Y0 sY0 eD0
          generalize upd (upd H5 D (.lst [])) tt (.tup [.int 0, .ref D]) = H6
          intro Y0 sY0 eD0
          have nRM : ∀ {G' H' : Hp}, Xt [p] G5 H5 G' H' → H' R = some (.lst (rowsV g l)) ∧ H' S = some (.lst zs) := fun Y => ⟨Y.hh _ _ (by simpa using nRp) eR, Y.hh _ _ (by simpa using nSp) eS⟩
          refine ⟨_, rfl, R, rfl, ⟨_, SqL.of (nRM Y0).1⟩, for_list (xs := rowsV g l) (fun i σ H' => ∃ (es : List Nat) (y10 : Option V), σ = [some (.ref a), some (.int (k : Int)), some (.ref p), some (.int (many : Int)), some u, some v, some (.ref R), some (.ref S), some (.int ((pre (jT g l) i).length : Int)), some (.ref D), y10, y11, none] ∧ Xt [p] G5 H5 G5 H' ∧ Src H' p ∧ H' D = some (.lst (nts es)) ∧ es.length = i)
            ⟨[], _, rfl, Y0, sY0, eD0, rfl⟩ (fun i σ H' _ h => ?_) ?_ ?_⟩
          · obtain ⟨_, _, _, Y, _⟩ := h
            exact SqL.of (nRM Y).1
          · rintro i x σ K1 ex ⟨es, y10, rfl, Y1, q1, eD1, hes⟩
            obtain ⟨tl, etl, rfl⟩ := map_at ex
            have hi := (List.getElem?_eq_some_iff.mp etl).1
            have t320 := jT_size ok gd jok (by omega) tl (List.mem_of_getElem? etl)
            have lm : (mkS (tl ++ [10])).length = tl.length + 1 := by rw [mkS_len, List.length_append]; rfl
            have e2 : ((pre (jT g l) i).length : Int) + ((mkS (tl ++ [10])).length : Int) = ((pre (jT g l) (i + 1)).length : Int) := by
              rw [lm, pre_succ etl, List.length_append, List.length_append, List.length_singleton]
              omega
            refine ⟨_, rfl, _, rfl, _, rfl, by rw [lm]; exact sz (by omega), _, _, rfl, rfl, ?_⟩
            refine ⟨_, rfl, .inl ⟨rfl, _, SqL.of eD1⟩, _, rfl, D, _, _, rfl, rfl, eD1, by rw [List.length_map]; exact small1000 (by omega), ?_⟩
            refine ⟨es ++ [(pre (jT g l) (i + 1)).length], _, by rw [← e2]; rfl, Y1.mut gD5 (.inr nD), Src.ne (H' := H5) q1 nDp, ?_, by rw [List.length_append, hes]; rfl⟩
            rw [upd_same, nts_snoc, ← e2]
          rintro σ K1 ⟨es, y10, rfl, Y1, q1, eD1, hes⟩
          have hes' : es.length = l.length + 1 := by rw [hes, rowsV_len]
          have e9 : (rowsV g l).length = (jT g l).length := by rw [rowsV_len, lt]
          rw [e9, pre_all]
          revert hfull
          generalize (((jT g l).map (· ++ [10])).flatten).length = size
          intro hfull
          -- ends + [..]
          refine ⟨_, rfl, _, rfl, by decide, by decide, fun D2 nD2 => ?_⟩
          have nDD2 : D ≠ D2 := ne_of_none eD1 nD2
          have nD2p : D2 ≠ p := ne_src q1 nD2
          have nD25 : H5 D2 = none := by
            cases z : H5 D2 with
            | none => rfl
            | some o =>
              obtain ⟨o', e'⟩ := Y1.lv _ _ z
              rw [e'] at nD2
              cases nD2
          refine rng_loop (fun i H' => ∃ as : List Nat, Xt [p] G5 H5 G5 H' ∧ Src H' p ∧ H' D = some (.lst (nts es)) ∧ H' D2 = some (.lst (nts as)) ∧ as.length = i) ⟨[], Y1.newM nD2, Src.ne (H' := H5) q1 nD2p, by rw [upd_ne nDD2]; exact eD1, upd_same, rfl⟩ ?_ ?_
          · rintro i K2 hi ⟨as, Y2, q2, eD2, eE2, has⟩
            have hi' : i < 10 := hi
            refine ⟨rfl, _, rfl, _, rfl, _, _, rfl, rfl, p, size + 1, rfl, by omega, by omega, q2, fun n b m hn so => ?_⟩
            refine ⟨nts as, by rw [upd_ne nD2p]; exact eE2, by rw [List.length_map]; exact small1000 (by omega), as ++ [n], (Y2.mut gp5 (.inl (List.mem_singleton.mpr rfl))).mut (XX5.gh.free nD25) (.inr nD25), Src.ne (H' := H5) (Src.upd so) nD2p, ?_, ?_, by rw [List.length_append, has]; rfl⟩
            · rw [upd_ne nDD2, upd_ne nDp]
              exact eD2
            · rw [upd_same, nts_snoc]
          rintro K2 ⟨as, Y2, q2, eD2, eE2, has⟩
          have has' : as.length = 10 := has
          refine ⟨D, D2, nts es, nts as, rfl, rfl, eD2, eE2, Nat.le_of_lt (small1000 (by rw [List.length_map, List.length_map]; omega)), fun L nL => ⟨L, rfl, ⟨_, SqL.of upd_same⟩, ?_⟩⟩
          have Y3 := Y2.newM (o := .lst (nts es ++ nts as)) nL
          have q3 := Src.ne (o := .lst (nts es ++ nts as)) (H' := H5) q2 (ne_src q2 nL)
          have eL : (upd K2 L (.lst (nts es ++ nts as))) L = some (.lst (nts es ++ nts as)) := upd_same
          revert Y3 q3 eL
          generalize upd K2 L (.lst (nts es ++ nts as)) = K3
          intro Y3 q3 eL
          refine for_list (xs := nts es ++ nts as) (fun i σ H' => ∃ y11 : Option V, σ = [some (.ref a), some (.int (k : Int)), some (.ref p), some (.int (many : Int)), some u, some v, some (.ref R), some (.ref S), some (.int (size : Int)), some (.ref D), y10, y11, none] ∧ Same K3 H') ⟨_, rfl, Same.refl _⟩ (fun i σ H' _ h => SqL.of (h.choose_spec.2 _ _ eL)) ?_ ?_
          · rintro i x σ K4 ex ⟨y11', rfl, s4'⟩
            obtain ⟨n, rfl⟩ : ∃ n : Nat, x = .int (n : Int) := by
              have z := List.mem_of_getElem? ex
              rcases List.mem_append.mp z with z | z
              · obtain ⟨n, _, rfl⟩ := List.mem_map.mp z
                exact ⟨n, rfl⟩
              · obtain ⟨n, _, rfl⟩ := List.mem_map.mp z
                exact ⟨n, rfl⟩
            have s5' := Y3.gh.trans s4'
            refine ⟨_, rfl, _, rfl, _, rfl, _, rfl, u, R, S, rs, g, l, zs, n, rfl, ru5.mono s5', ok, gd, jok, by omega, s4' _ _ (nRM Y3).1, s4' _ _ (nRM Y3).2, rz.mono s5', fun H' s' => ⟨true, rfl, iteF ?_⟩⟩
            exact ⟨_, rfl, s4'.trans s'⟩
          rintro σ K4 ⟨y11', rfl, s4'⟩
          refine ⟨_, rfl, _, rfl, _, rfl, G5, p, u, v, rs, g, rfl, Y3.gh.trans s4', gp5, q3.same s4', ru5, rv5, ok, gd, fun G' H' X' s' => ⟨true, rfl, iteF ?_⟩⟩
          have XF := (XX5.trans (Y3.trans (Xt.same Y3.gh s4'))).trans X'
          refine ⟨_, _, _, _, _, _, _, _, _, _, _, rfl, sA.trans fun b o e => ?_⟩
          have eb := s0 _ _ e
          have nb : b ≠ p := ne_of_none eb np
          exact XF.hh _ _ (by simpa using nb) (by rw [upd_ne nb]; exact eb)
        · refine iteDF (by intro z; have := V.int.inj z; omega) (iteF ?_)
          obtain ⟨Gb, hGb⟩ : ∃ Gb, Gb = G2 := ⟨_, rfl⟩
          have X : Xt [p] H0 (upd H0 p (.lst [.int b, .int m])) Gb Kc := by rw [hGb]; exact Xo
          have rub : Rp Gb u (rd rs) := by rw [hGb]; exact ru
          have sb := so
          -- forest
          have gpb : Gb p = none := X.nn _ _ e1 gp
          refine ⟨_, rfl, _, rfl, Gb, p, u, rs, rfl, X.gh, gpb, sb, rub, ok, fun G4 H4 v g X4 s4 gd rv => ?_⟩
          have XX4 := X.trans X4
          have gp4 := XX4.nn _ _ e1 gp
          -- rows, states
          refine ⟨_, rfl, _, rfl, _, rfl, G4, p, u, v, rs, g, rfl, X4.gh, gp4, s4, rub.mono X4.gg, rv, ok, gd, fun G5 H5 t R S zs l X5 s5 et nRp nSp eR eS rz jok l5 => ⟨t, _, rfl, SqT.of (X5.gh _ _ et), rfl, _, _, rfl, _, _, rfl, rfl, ?_⟩⟩
          have XX5 := XX4.trans X5
          have gp5 := XX5.nn _ _ e1 gp
          have ru5 := (rub.mono X4.gg).mono X5.gg
          have rv5 := rv.mono X5.gg
          have lt := jT_len g l
          have hfull : (((jT g l).map (· ++ [10])).flatten).length ≤ 90000 := by
            have z := flat_size (jT_size ok gd jok (by omega))
            rw [lt] at z
            omega
          -- size, ends
          refine ⟨Nat.zero_le _, fun D nD => ⟨(by show 2 ≤ sizeLine; decide), fun tt ntt => ⟨tt, _, rfl, SqT.of upd_same, rfl, _, _, rfl, _, _, rfl, rfl, ?_⟩⟩⟩
          have Y0 := ((Xt.refl (M := [p]) XX5.gh).newM (o := .lst []) nD).newM (o := .tup [.int 0, .ref D]) ntt
          have nDtt : D ≠ tt := ne_of_none upd_same ntt
          have nDp : D ≠ p := ne_src s5 nD
          have gD5 : G5 D = none := XX5.gh.free nD
          have sY0 : Src (upd (upd H5 D (.lst [])) tt (.tup [.int 0, .ref D])) p := by
            have z := Src.ne (o := .lst []) (H' := H5) s5 nDp
            exact Src.ne (H' := H5) z (ne_src z ntt)
          have eD0 : (upd (upd H5 D (.lst [])) tt (.tup [.int 0, .ref D])) D = some (.lst (nts [])) := by rw [upd_ne nDtt]; exact upd_same
          revert Y0 sY0 eD0
          generalize upd (upd H5 D (.lst [])) tt (.tup [.int 0, .ref D]) = H6
          intro Y0 sY0 eD0
          have nRM : ∀ {G' H' : Hp}, Xt [p] G5 H5 G' H' → H' R = some (.lst (rowsV g l)) ∧ H' S = some (.lst zs) := fun Y => ⟨Y.hh _ _ (by simpa using nRp) eR, Y.hh _ _ (by simpa using nSp) eS⟩
          refine ⟨_, rfl, R, rfl, ⟨_, SqL.of (nRM Y0).1⟩, for_list (xs := rowsV g l) (fun i σ H' => ∃ (es : List Nat) (y10 : Option V), σ = [some (.ref a), some (.int (k : Int)), some (.ref p), some (.int (many : Int)), some u, some v, some (.ref R), some (.ref S), some (.int ((pre (jT g l) i).length : Int)), some (.ref D), y10, y11, none] ∧ Xt [p] G5 H5 G5 H' ∧ Src H' p ∧ H' D = some (.lst (nts es)) ∧ es.length = i)
            ⟨[], _, rfl, Y0, sY0, eD0, rfl⟩ (fun i σ H' _ h => ?_) ?_ ?_⟩
          · obtain ⟨_, _, _, Y, _⟩ := h
            exact SqL.of (nRM Y).1
          · rintro i x σ K1 ex ⟨es, y10, rfl, Y1, q1, eD1, hes⟩
            obtain ⟨tl, etl, rfl⟩ := map_at ex
            have hi := (List.getElem?_eq_some_iff.mp etl).1
            have t320 := jT_size ok gd jok (by omega) tl (List.mem_of_getElem? etl)
            have lm : (mkS (tl ++ [10])).length = tl.length + 1 := by rw [mkS_len, List.length_append]; rfl
            have e2 : ((pre (jT g l) i).length : Int) + ((mkS (tl ++ [10])).length : Int) = ((pre (jT g l) (i + 1)).length : Int) := by
              rw [lm, pre_succ etl, List.length_append, List.length_append, List.length_singleton]
              omega
            refine ⟨_, rfl, _, rfl, _, rfl, by rw [lm]; exact sz (by omega), _, _, rfl, rfl, ?_⟩
            refine ⟨_, rfl, .inl ⟨rfl, _, SqL.of eD1⟩, _, rfl, D, _, _, rfl, rfl, eD1, by rw [List.length_map]; exact small1000 (by omega), ?_⟩
            refine ⟨es ++ [(pre (jT g l) (i + 1)).length], _, by rw [← e2]; rfl, Y1.mut gD5 (.inr nD), Src.ne (H' := H5) q1 nDp, ?_, by rw [List.length_append, hes]; rfl⟩
            rw [upd_same, nts_snoc, ← e2]
          rintro σ K1 ⟨es, y10, rfl, Y1, q1, eD1, hes⟩
          have hes' : es.length = l.length + 1 := by rw [hes, rowsV_len]
          have e9 : (rowsV g l).length = (jT g l).length := by rw [rowsV_len, lt]
          rw [e9, pre_all]
          revert hfull
          generalize (((jT g l).map (· ++ [10])).flatten).length = size
          intro hfull
          -- ends + [..]
          refine ⟨_, rfl, _, rfl, by decide, by decide, fun D2 nD2 => ?_⟩
          have nDD2 : D ≠ D2 := ne_of_none eD1 nD2
          have nD2p : D2 ≠ p := ne_src q1 nD2
          have nD25 : H5 D2 = none := by
            cases z : H5 D2 with
            | none => rfl
            | some o =>
              obtain ⟨o', e'⟩ := Y1.lv _ _ z
              rw [e'] at nD2
              cases nD2
          refine rng_loop (fun i H' => ∃ as : List Nat, Xt [p] G5 H5 G5 H' ∧ Src H' p ∧ H' D = some (.lst (nts es)) ∧ H' D2 = some (.lst (nts as)) ∧ as.length = i) ⟨[], Y1.newM nD2, Src.ne (H' := H5) q1 nD2p, by rw [upd_ne nDD2]; exact eD1, upd_same, rfl⟩ ?_ ?_
          · rintro i K2 hi ⟨as, Y2, q2, eD2, eE2, has⟩
            have hi' : i < 10 := hi
            refine ⟨rfl, _, rfl, _, rfl, _, _, rfl, rfl, p, size + 1, rfl, by omega, by omega, q2, fun n b m hn so => ?_⟩
            refine ⟨nts as, by rw [upd_ne nD2p]; exact eE2, by rw [List.length_map]; exact small1000 (by omega), as ++ [n], (Y2.mut gp5 (.inl (List.mem_singleton.mpr rfl))).mut (XX5.gh.free nD25) (.inr nD25), Src.ne (H' := H5) (Src.upd so) nD2p, ?_, ?_, by rw [List.length_append, has]; rfl⟩
            · rw [upd_ne nDD2, upd_ne nDp]
              exact eD2
            · rw [upd_same, nts_snoc]
          rintro K2 ⟨as, Y2, q2, eD2, eE2, has⟩
          have has' : as.length = 10 := has
          refine ⟨D, D2, nts es, nts as, rfl, rfl, eD2, eE2, Nat.le_of_lt (small1000 (by rw [List.length_map, List.length_map]; omega)), fun L nL => ⟨L, rfl, ⟨_, SqL.of upd_same⟩, ?_⟩⟩
          have Y3 := Y2.newM (o := .lst (nts es ++ nts as)) nL
          have q3 := Src.ne (o := .lst (nts es ++ nts as)) (H' := H5) q2 (ne_src q2 nL)
          have eL : (upd K2 L (.lst (nts es ++ nts as))) L = some (.lst (nts es ++ nts as)) := upd_same
          revert Y3 q3 eL
          generalize upd K2 L (.lst (nts es ++ nts as)) = K3
          intro Y3 q3 eL
          refine for_list (xs := nts es ++ nts as) (fun i σ H' => ∃ y11 : Option V, σ = [some (.ref a), some (.int (k : Int)), some (.ref p), some (.int (many : Int)), some u, some v, some (.ref R), some (.ref S), some (.int (size : Int)), some (.ref D), y10, y11, none] ∧ Same K3 H') ⟨_, rfl, Same.refl _⟩ (fun i σ H' _ h => SqL.of (h.choose_spec.2 _ _ eL)) ?_ ?_
          · rintro i x σ K4 ex ⟨y11', rfl, s4'⟩
            obtain ⟨n, rfl⟩ : ∃ n : Nat, x = .int (n : Int) := by
              have z := List.mem_of_getElem? ex
              rcases List.mem_append.mp z with z | z
              · obtain ⟨n, _, rfl⟩ := List.mem_map.mp z
                exact ⟨n, rfl⟩
              · obtain ⟨n, _, rfl⟩ := List.mem_map.mp z
                exact ⟨n, rfl⟩
            have s5' := Y3.gh.trans s4'
            refine ⟨_, rfl, _, rfl, _, rfl, _, rfl, u, R, S, rs, g, l, zs, n, rfl, ru5.mono s5', ok, gd, jok, by omega, s4' _ _ (nRM Y3).1, s4' _ _ (nRM Y3).2, rz.mono s5', fun H' s' => ⟨true, rfl, iteF ?_⟩⟩
            exact ⟨_, rfl, s4'.trans s'⟩
          rintro σ K4 ⟨y11', rfl, s4'⟩
          refine ⟨_, rfl, _, rfl, _, rfl, G5, p, u, v, rs, g, rfl, Y3.gh.trans s4', gp5, q3.same s4', ru5, rv5, ok, gd, fun G' H' X' s' => ⟨true, rfl, iteF ?_⟩⟩
          have XF := (XX5.trans (Y3.trans (Xt.same Y3.gh s4'))).trans X'
          refine ⟨_, _, _, _, _, _, _, _, _, _, _, rfl, sA.trans fun b o e => ?_⟩
          have eb := s0 _ _ e
          have nb : b ≠ p := ne_of_none eb np
          exact XF.hh _ _ (by simpa using nb) (by rw [upd_ne nb]; exact eb)
      · refine iteDF (by intro z; have := V.int.inj z; omega) ?_
        refine ⟨_, rfl, p, 7, rfl, by decide, by decide, q1, fun n7 b7 m7 h7 so7 => ⟨_, _, rfl, rfl, ?_⟩⟩
        have Xm := X1.mut (o := .lst [.int b7, .int m7]) gp (.inl (List.mem_singleton.mpr rfl))
        have sm : Src (upd Ka p (.lst [.int b7, .int m7])) p := Src.upd so7
        obtain ⟨many, hmn⟩ : ∃ many : Nat, many = 1 + n7 := ⟨_, rfl⟩
        have hmany : many ≤ 24 := by omega
        have hmv : (fun i j : Int => V.int (i + j)) 1 (n7 : Int) = V.int (many : Int) := congrArg V.int (by omega)
        rw [hmv]
        refine ⟨_, rfl, _, rfl, H0, p, many, rfl, Xm.gh, gp, sm, hmany, fun G2 H2 u rs X2 s2 hrs ok ru => ?_⟩
        have Xn := Xm.trans X2
        have gp2 := Xn.nn _ _ e1 gp
        refine ⟨_, rfl, p, 16, rfl, by decide, by decide, s2, fun n16 b16 m16 h16 so16 => ⟨rfl, _, rfl, ?_⟩⟩
        have Xo := Xn.mut (o := .lst [.int b16, .int m16]) gp2 (.inl (List.mem_singleton.mpr rfl))
        have so := Src.upd (H := H2) (a := p) so16
        revert Xo so
        generalize upd H2 p (.lst [.int b16, .int m16]) = Kc
        intro Xo so
        by_cases h0 : n16 = 0
        · refine iteD (by rw [h0]; rfl) ?_
          refine ⟨_, rfl, G2, p, rfl, Xo.gh, gp2, so, fun Gb Kb Xl sb => ⟨true, rfl, iteF ?_⟩⟩
          have X := Xo.trans Xl
          have rub := ru.mono Xl.gg
          -- forest
          have gpb : Gb p = none := X.nn _ _ e1 gp
          refine ⟨_, rfl, _, rfl, Gb, p, u, rs, rfl, X.gh, gpb, sb, rub, ok, fun G4 H4 v g X4 s4 gd rv => ?_⟩
          have XX4 := X.trans X4
          have gp4 := XX4.nn _ _ e1 gp
          -- rows, states
          refine ⟨_, rfl, _, rfl, _, rfl, G4, p, u, v, rs, g, rfl, X4.gh, gp4, s4, rub.mono X4.gg, rv, ok, gd, fun G5 H5 t R S zs l X5 s5 et nRp nSp eR eS rz jok l5 => ⟨t, _, rfl, SqT.of (X5.gh _ _ et), rfl, _, _, rfl, _, _, rfl, rfl, ?_⟩⟩
          have XX5 := XX4.trans X5
          have gp5 := XX5.nn _ _ e1 gp
          have ru5 := (rub.mono X4.gg).mono X5.gg
          have rv5 := rv.mono X5.gg
          have lt := jT_len g l
          have hfull : (((jT g l).map (· ++ [10])).flatten).length ≤ 90000 := by
            have z := flat_size (jT_size ok gd jok (by omega))
            rw [lt] at z
            omega
          -- size, ends
          refine ⟨Nat.zero_le _, fun D nD => ⟨(by show 2 ≤ sizeLine; decide), fun tt ntt => ⟨tt, _, rfl, SqT.of upd_same, rfl, _, _, rfl, _, _, rfl, rfl, ?_⟩⟩⟩
          have Y0 := ((Xt.refl (M := [p]) XX5.gh).newM (o := .lst []) nD).newM (o := .tup [.int 0, .ref D]) ntt
          have nDtt : D ≠ tt := ne_of_none upd_same ntt
          have nDp : D ≠ p := ne_src s5 nD
          have gD5 : G5 D = none := XX5.gh.free nD
          have sY0 : Src (upd (upd H5 D (.lst [])) tt (.tup [.int 0, .ref D])) p := by
            have z := Src.ne (o := .lst []) (H' := H5) s5 nDp
            exact Src.ne (H' := H5) z (ne_src z ntt)
          have eD0 : (upd (upd H5 D (.lst [])) tt (.tup [.int 0, .ref D])) D = some (.lst (nts [])) := by rw [upd_ne nDtt]; exact upd_same
          revert Y0 sY0 eD0
          generalize upd (upd H5 D (.lst [])) tt (.tup [.int 0, .ref D]) = H6
          intro Y0 sY0 eD0
          have nRM : ∀ {G' H' : Hp}, Xt [p] G5 H5 G' H' → H' R = some (.lst (rowsV g l)) ∧ H' S = some (.lst zs) := fun Y => ⟨Y.hh _ _ (by simpa using nRp) eR, Y.hh _ _ (by simpa using nSp) eS⟩
          refine ⟨_, rfl, R, rfl, ⟨_, SqL.of (nRM Y0).1⟩, for_list (xs := rowsV g l) (fun i σ H' => ∃ (es : List Nat) (y10 : Option V), σ = [some (.ref a), some (.int (k : Int)), some (.ref p), some (.int (many : Int)), some u, some v, some (.ref R), some (.ref S), some (.int ((pre (jT g l) i).length : Int)), some (.ref D), y10, y11, none] ∧ Xt [p] G5 H5 G5 H' ∧ Src H' p ∧ H' D = some (.lst (nts es)) ∧ es.length = i)
            ⟨[], _, rfl, Y0, sY0, eD0, rfl⟩ (fun i σ H' _ h => ?_) ?_ ?_⟩
          · obtain ⟨_, _, _, Y, _⟩ := h
            exact SqL.of (nRM Y).1
          · rintro i x σ K1 ex ⟨es, y10, rfl, Y1, q1, eD1, hes⟩
            obtain ⟨tl, etl, rfl⟩ := map_at ex
            have hi := (List.getElem?_eq_some_iff.mp etl).1
            have t320 := jT_size ok gd jok (by omega) tl (List.mem_of_getElem? etl)
            have lm : (mkS (tl ++ [10])).length = tl.length + 1 := by rw [mkS_len, List.length_append]; rfl
            have e2 : ((pre (jT g l) i).length : Int) + ((mkS (tl ++ [10])).length : Int) = ((pre (jT g l) (i + 1)).length : Int) := by
              rw [lm, pre_succ etl, List.length_append, List.length_append, List.length_singleton]
              omega
            refine ⟨_, rfl, _, rfl, _, rfl, by rw [lm]; exact sz (by omega), _, _, rfl, rfl, ?_⟩
            refine ⟨_, rfl, .inl ⟨rfl, _, SqL.of eD1⟩, _, rfl, D, _, _, rfl, rfl, eD1, by rw [List.length_map]; exact small1000 (by omega), ?_⟩
            refine ⟨es ++ [(pre (jT g l) (i + 1)).length], _, by rw [← e2]; rfl, Y1.mut gD5 (.inr nD), Src.ne (H' := H5) q1 nDp, ?_, by rw [List.length_append, hes]; rfl⟩
            rw [upd_same, nts_snoc, ← e2]
          rintro σ K1 ⟨es, y10, rfl, Y1, q1, eD1, hes⟩
          have hes' : es.length = l.length + 1 := by rw [hes, rowsV_len]
          have e9 : (rowsV g l).length = (jT g l).length := by rw [rowsV_len, lt]
          rw [e9, pre_all]
          revert hfull
          generalize (((jT g l).map (· ++ [10])).flatten).length = size
          intro hfull
          -- ends + [..]
          refine ⟨_, rfl, _, rfl, by decide, by decide, fun D2 nD2 => ?_⟩
          have nDD2 : D ≠ D2 := ne_of_none eD1 nD2
          have nD2p : D2 ≠ p := ne_src q1 nD2
          have nD25 : H5 D2 = none := by
            cases z : H5 D2 with
            | none => rfl
            | some o =>
              obtain ⟨o', e'⟩ := Y1.lv _ _ z
              rw [e'] at nD2
              cases nD2
          refine rng_loop (fun i H' => ∃ as : List Nat, Xt [p] G5 H5 G5 H' ∧ Src H' p ∧ H' D = some (.lst (nts es)) ∧ H' D2 = some (.lst (nts as)) ∧ as.length = i) ⟨[], Y1.newM nD2, Src.ne (H' := H5) q1 nD2p, by rw [upd_ne nDD2]; exact eD1, upd_same, rfl⟩ ?_ ?_
          · rintro i K2 hi ⟨as, Y2, q2, eD2, eE2, has⟩
            have hi' : i < 10 := hi
            refine ⟨rfl, _, rfl, _, rfl, _, _, rfl, rfl, p, size + 1, rfl, by omega, by omega, q2, fun n b m hn so => ?_⟩
            refine ⟨nts as, by rw [upd_ne nD2p]; exact eE2, by rw [List.length_map]; exact small1000 (by omega), as ++ [n], (Y2.mut gp5 (.inl (List.mem_singleton.mpr rfl))).mut (XX5.gh.free nD25) (.inr nD25), Src.ne (H' := H5) (Src.upd so) nD2p, ?_, ?_, by rw [List.length_append, has]; rfl⟩
            · rw [upd_ne nDD2, upd_ne nDp]
              exact eD2
            · rw [upd_same, nts_snoc]
          rintro K2 ⟨as, Y2, q2, eD2, eE2, has⟩
          have has' : as.length = 10 := has
          refine ⟨D, D2, nts es, nts as, rfl, rfl, eD2, eE2, Nat.le_of_lt (small1000 (by rw [List.length_map, List.length_map]; omega)), fun L nL => ⟨L, rfl, ⟨_, SqL.of upd_same⟩, ?_⟩⟩
          have Y3 := Y2.newM (o := .lst (nts es ++ nts as)) nL
          have q3 := Src.ne (o := .lst (nts es ++ nts as)) (H' := H5) q2 (ne_src q2 nL)
          have eL : (upd K2 L (.lst (nts es ++ nts as))) L = some (.lst (nts es ++ nts as)) := upd_same
          revert Y3 q3 eL
          generalize upd K2 L (.lst (nts es ++ nts as)) = K3
          intro Y3 q3 eL
          refine for_list (xs := nts es ++ nts as) (fun i σ H' => ∃ y11 : Option V, σ = [some (.ref a), some (.int (k : Int)), some (.ref p), some (.int (many : Int)), some u, some v, some (.ref R), some (.ref S), some (.int (size : Int)), some (.ref D), y10, y11, none] ∧ Same K3 H') ⟨_, rfl, Same.refl _⟩ (fun i σ H' _ h => SqL.of (h.choose_spec.2 _ _ eL)) ?_ ?_
          · rintro i x σ K4 ex ⟨y11', rfl, s4'⟩
            obtain ⟨n, rfl⟩ : ∃ n : Nat, x = .int (n : Int) := by
              have z := List.mem_of_getElem? ex
              rcases List.mem_append.mp z with z | z
              · obtain ⟨n, _, rfl⟩ := List.mem_map.mp z
                exact ⟨n, rfl⟩
              · obtain ⟨n, _, rfl⟩ := List.mem_map.mp z
                exact ⟨n, rfl⟩
            have s5' := Y3.gh.trans s4'
            refine ⟨_, rfl, _, rfl, _, rfl, _, rfl, u, R, S, rs, g, l, zs, n, rfl, ru5.mono s5', ok, gd, jok, by omega, s4' _ _ (nRM Y3).1, s4' _ _ (nRM Y3).2, rz.mono s5', fun H' s' => ⟨true, rfl, iteF ?_⟩⟩
            exact ⟨_, rfl, s4'.trans s'⟩
          rintro σ K4 ⟨y11', rfl, s4'⟩
          refine ⟨_, rfl, _, rfl, _, rfl, G5, p, u, v, rs, g, rfl, Y3.gh.trans s4', gp5, q3.same s4', ru5, rv5, ok, gd, fun G' H' X' s' => ⟨true, rfl, iteF ?_⟩⟩
          have XF := (XX5.trans (Y3.trans (Xt.same Y3.gh s4'))).trans X'
          refine ⟨_, _, _, _, _, _, _, _, _, _, _, rfl, sA.trans fun b o e => ?_⟩
          have eb := s0 _ _ e
          have nb : b ≠ p := ne_of_none eb np
          exact XF.hh _ _ (by simpa using nb) (by rw [upd_ne nb]; exact eb)
        · refine iteDF (by intro z; have := V.int.inj z; omega) (iteF ?_)
          obtain ⟨Gb, hGb⟩ : ∃ Gb, Gb = G2 := ⟨_, rfl⟩
          have X : Xt [p] H0 (upd H0 p (.lst [.int b, .int m])) Gb Kc := by rw [hGb]; exact Xo
          have rub : Rp Gb u (rd rs) := by rw [hGb]; exact ru
          have sb := so
          -- forest
          have gpb : Gb p = none := X.nn _ _ e1 gp
          refine ⟨_, rfl, _, rfl, Gb, p, u, rs, rfl, X.gh, gpb, sb, rub, ok, fun G4 H4 v g X4 s4 gd rv => ?_⟩
          have XX4 := X.trans X4
          have gp4 := XX4.nn _ _ e1 gp
          -- rows, states
          refine ⟨_, rfl, _, rfl, _, rfl, G4, p, u, v, rs, g, rfl, X4.gh, gp4, s4, rub.mono X4.gg, rv, ok, gd, fun G5 H5 t R S zs l X5 s5 et nRp nSp eR eS rz jok l5 => ⟨t, _, rfl, SqT.of (X5.gh _ _ et), rfl, _, _, rfl, _, _, rfl, rfl, ?_⟩⟩
          have XX5 := XX4.trans X5
          have gp5 := XX5.nn _ _ e1 gp
          have ru5 := (rub.mono X4.gg).mono X5.gg
          have rv5 := rv.mono X5.gg
          have lt := jT_len g l
          have hfull : (((jT g l).map (· ++ [10])).flatten).length ≤ 90000 := by
            have z := flat_size (jT_size ok gd jok (by omega))
            rw [lt] at z
            omega
          -- size, ends
          refine ⟨Nat.zero_le _, fun D nD => ⟨(by show 2 ≤ sizeLine; decide), fun tt ntt => ⟨tt, _, rfl, SqT.of upd_same, rfl, _, _, rfl, _, _, rfl, rfl, ?_⟩⟩⟩
          have Y0 := ((Xt.refl (M := [p]) XX5.gh).newM (o := .lst []) nD).newM (o := .tup [.int 0, .ref D]) ntt
          have nDtt : D ≠ tt := ne_of_none upd_same ntt
          have nDp : D ≠ p := ne_src s5 nD
          have gD5 : G5 D = none := XX5.gh.free nD
          have sY0 : Src (upd (upd H5 D (.lst [])) tt (.tup [.int 0, .ref D])) p := by
            have z := Src.ne (o := .lst []) (H' := H5) s5 nDp
            exact Src.ne (H' := H5) z (ne_src z ntt)
          have eD0 : (upd (upd H5 D (.lst [])) tt (.tup [.int 0, .ref D])) D = some (.lst (nts [])) := by rw [upd_ne nDtt]; exact upd_same
          revert Y0 sY0 eD0
          generalize upd (upd H5 D (.lst [])) tt (.tup [.int 0, .ref D]) = H6
          intro Y0 sY0 eD0
          have nRM : ∀ {G' H' : Hp}, Xt [p] G5 H5 G' H' → H' R = some (.lst (rowsV g l)) ∧ H' S = some (.lst zs) := fun Y => ⟨Y.hh _ _ (by simpa using nRp) eR, Y.hh _ _ (by simpa using nSp) eS⟩
          refine ⟨_, rfl, R, rfl, ⟨_, SqL.of (nRM Y0).1⟩, for_list (xs := rowsV g l) (fun i σ H' => ∃ (es : List Nat) (y10 : Option V), σ = [some (.ref a), some (.int (k : Int)), some (.ref p), some (.int (many : Int)), some u, some v, some (.ref R), some (.ref S), some (.int ((pre (jT g l) i).length : Int)), some (.ref D), y10, y11, none] ∧ Xt [p] G5 H5 G5 H' ∧ Src H' p ∧ H' D = some (.lst (nts es)) ∧ es.length = i)
            ⟨[], _, rfl, Y0, sY0, eD0, rfl⟩ (fun i σ H' _ h => ?_) ?_ ?_⟩
          · obtain ⟨_, _, _, Y, _⟩ := h
            exact SqL.of (nRM Y).1
          · rintro i x σ K1 ex ⟨es, y10, rfl, Y1, q1, eD1, hes⟩
            obtain ⟨tl, etl, rfl⟩ := map_at ex
            have hi := (List.getElem?_eq_some_iff.mp etl).1
            have t320 := jT_size ok gd jok (by omega) tl (List.mem_of_getElem? etl)
            have lm : (mkS (tl ++ [10])).length = tl.length + 1 := by rw [mkS_len, List.length_append]; rfl
            have e2 : ((pre (jT g l) i).length : Int) + ((mkS (tl ++ [10])).length : Int) = ((pre (jT g l) (i + 1)).length : Int) := by
              rw [lm, pre_succ etl, List.length_append, List.length_append, List.length_singleton]
              omega
            refine ⟨_, rfl, _, rfl, _, rfl, by rw [lm]; exact sz (by omega), _, _, rfl, rfl, ?_⟩
            refine ⟨_, rfl, .inl ⟨rfl, _, SqL.of eD1⟩, _, rfl, D, _, _, rfl, rfl, eD1, by rw [List.length_map]; exact small1000 (by omega), ?_⟩
            refine ⟨es ++ [(pre (jT g l) (i + 1)).length], _, by rw [← e2]; rfl, Y1.mut gD5 (.inr nD), Src.ne (H' := H5) q1 nDp, ?_, by rw [List.length_append, hes]; rfl⟩
            rw [upd_same, nts_snoc, ← e2]
          rintro σ K1 ⟨es, y10, rfl, Y1, q1, eD1, hes⟩
          have hes' : es.length = l.length + 1 := by rw [hes, rowsV_len]
          have e9 : (rowsV g l).length = (jT g l).length := by rw [rowsV_len, lt]
          rw [e9, pre_all]
          revert hfull
          generalize (((jT g l).map (· ++ [10])).flatten).length = size
          intro hfull
          -- ends + [..]
          refine ⟨_, rfl, _, rfl, by decide, by decide, fun D2 nD2 => ?_⟩
          have nDD2 : D ≠ D2 := ne_of_none eD1 nD2
          have nD2p : D2 ≠ p := ne_src q1 nD2
          have nD25 : H5 D2 = none := by
            cases z : H5 D2 with
            | none => rfl
            | some o =>
              obtain ⟨o', e'⟩ := Y1.lv _ _ z
              rw [e'] at nD2
              cases nD2
          refine rng_loop (fun i H' => ∃ as : List Nat, Xt [p] G5 H5 G5 H' ∧ Src H' p ∧ H' D = some (.lst (nts es)) ∧ H' D2 = some (.lst (nts as)) ∧ as.length = i) ⟨[], Y1.newM nD2, Src.ne (H' := H5) q1 nD2p, by rw [upd_ne nDD2]; exact eD1, upd_same, rfl⟩ ?_ ?_
          · rintro i K2 hi ⟨as, Y2, q2, eD2, eE2, has⟩
            have hi' : i < 10 := hi
            refine ⟨rfl, _, rfl, _, rfl, _, _, rfl, rfl, p, size + 1, rfl, by omega, by omega, q2, fun n b m hn so => ?_⟩
            refine ⟨nts as, by rw [upd_ne nD2p]; exact eE2, by rw [List.length_map]; exact small1000 (by omega), as ++ [n], (Y2.mut gp5 (.inl (List.mem_singleton.mpr rfl))).mut (XX5.gh.free nD25) (.inr nD25), Src.ne (H' := H5) (Src.upd so) nD2p, ?_, ?_, by rw [List.length_append, has]; rfl⟩
            · rw [upd_ne nDD2, upd_ne nDp]
              exact eD2
            · rw [upd_same, nts_snoc]
          rintro K2 ⟨as, Y2, q2, eD2, eE2, has⟩
          have has' : as.length = 10 := has
          refine ⟨D, D2, nts es, nts as, rfl, rfl, eD2, eE2, Nat.le_of_lt (small1000 (by rw [List.length_map, List.length_map]; omega)), fun L nL => ⟨L, rfl, ⟨_, SqL.of upd_same⟩, ?_⟩⟩
          have Y3 := Y2.newM (o := .lst (nts es ++ nts as)) nL
          have q3 := Src.ne (o := .lst (nts es ++ nts as)) (H' := H5) q2 (ne_src q2 nL)
          have eL : (upd K2 L (.lst (nts es ++ nts as))) L = some (.lst (nts es ++ nts as)) := upd_same
          revert Y3 q3 eL
          generalize upd K2 L (.lst (nts es ++ nts as)) = K3
          intro Y3 q3 eL
          refine for_list (xs := nts es ++ nts as) (fun i σ H' => ∃ y11 : Option V, σ = [some (.ref a), some (.int (k : Int)), some (.ref p), some (.int (many : Int)), some u, some v, some (.ref R), some (.ref S), some (.int (size : Int)), some (.ref D), y10, y11, none] ∧ Same K3 H') ⟨_, rfl, Same.refl _⟩ (fun i σ H' _ h => SqL.of (h.choose_spec.2 _ _ eL)) ?_ ?_
          · rintro i x σ K4 ex ⟨y11', rfl, s4'⟩
            obtain ⟨n, rfl⟩ : ∃ n : Nat, x = .int (n : Int) := by
              have z := List.mem_of_getElem? ex
              rcases List.mem_append.mp z with z | z
              · obtain ⟨n, _, rfl⟩ := List.mem_map.mp z
                exact ⟨n, rfl⟩
              · obtain ⟨n, _, rfl⟩ := List.mem_map.mp z
                exact ⟨n, rfl⟩
            have s5' := Y3.gh.trans s4'
            refine ⟨_, rfl, _, rfl, _, rfl, _, rfl, u, R, S, rs, g, l, zs, n, rfl, ru5.mono s5', ok, gd, jok, by omega, s4' _ _ (nRM Y3).1, s4' _ _ (nRM Y3).2, rz.mono s5', fun H' s' => ⟨true, rfl, iteF ?_⟩⟩
            exact ⟨_, rfl, s4'.trans s'⟩
          rintro σ K4 ⟨y11', rfl, s4'⟩
          refine ⟨_, rfl, _, rfl, _, rfl, G5, p, u, v, rs, g, rfl, Y3.gh.trans s4', gp5, q3.same s4', ru5, rv5, ok, gd, fun G' H' X' s' => ⟨true, rfl, iteF ?_⟩⟩
          have XF := (XX5.trans (Y3.trans (Xt.same Y3.gh s4'))).trans X'
          refine ⟨_, _, _, _, _, _, _, _, _, _, _, rfl, sA.trans fun b o e => ?_⟩
          have eb := s0 _ _ e
          have nb : b ≠ p := ne_of_none eb np
          exact XF.hh _ _ (by simpa using nb) (by rw [upd_ne nb]; exact eb)
    · rintro σ Hi ⟨y1, y2, y3, y4, y5, y6, y7, y8, y9, y10, y11, rfl, sA⟩
      exact q _
end
end KJ
set_option maxHeartbeats 4000000
namespace KJ
open PySem PySem.Spec PyProof.Rows L2
/-! What the top has written. -/
def DX (K : PySem.W.Frag) (x : Str) (st : Stmt) : Prop := ∃ (f : Addr) (fd : FuncData), PySem.W.nsIn K mainGlobals x = some (some (.ref f)) ∧ Fun K x x st f fd
theorem DX.of {K : PySem.W.Frag} {x : Str} {st : Stmt} {f : Addr} {oc : Value} {od an : Option Addr} {osl : Array (Option Value)} {kV doc pm cd ct : Value} (a : PySem.W.nsIn K mainGlobals x = some (some (.ref f)))
    (l : K.lookup f = some ⟨oc, od, .func (PySem.W.fnOf x x (defArgs st) (defBody st) (defScope st) .none kV doc pm an cd ct), osl⟩) (c : PySem.W.codeIn K cd x = true) (k : PySem.W.keepIn K (.ref f) = true) : DX K x st := ⟨f, _, a, fun_mk l c k⟩
theorem mk_cal {P : Program} {w : World} {K : PySem.W.Frag} {h base : Heap} {mg : Str → Option Value} {x : Str} {st : Stmt} {f : Addr} {fd : FuncData} {k : Nat} {ps : List Str} {sp : Sp} (X : K.In h) (G : h.Ns mainGlobals mg) (a : PySem.W.nsIn K mainGlobals x = some (some (.ref f))) (F : Fun K x x st f fd) (b : Binds K fd ps [])
    (ok : FnOk P w K mg base CX0 k f fd ps sp) : Cal P w K mg base k x sp := ⟨f, fd, ps, ok, PySem.W.mg_of X G a, F.2, b⟩
theorem kit_cls {K : PySem.W.Frag} {S D : Addr} {b : Bool} (h0 : (Value.ref S == Value.ref D) = false) (h2 : PySem.W.isClsIn K D = true) (h3 : PySem.W.typeIn K (.ref D) = some (.type "type")) (h4 : PySem.W.subIn K (.ref S) (.ref D) = some b) : PySem.W.kitOne K (.ref S) (.ref D) = some b := by
  have h2' : (PySem.W.clsIn K D).isSome = true := h2
  have e2 : ((PySem.W.clsIn K D).isSome && PySem.W.typeIn K (.ref D) == some (.type "type")) = true := by rw [h2', h3] <;> rfl
  show (if (Value.ref S == Value.ref D) = true then some true else (if ((PySem.W.clsIn K D).isSome && PySem.W.typeIn K (.ref D) == some (.type "type")) = true then PySem.W.subIn K (.ref S) (.ref D) else none)) = some b
  rw [h0, if_pos e2, if_neg Bool.false_ne_true]
  exact h4
theorem exm_own {K : PySem.W.Frag} {S : Addr} (h1 : PySem.W.subIn K (.ref S) (.type "BaseException") = some true) (h2 : PySem.W.isClsIn K S = true) (h3 : PySem.W.typeIn K (.ref S) = some (.type "type")) (h4 : PySem.W.subIn K (.ref S) (.ref S) = some true) : PySem.W.exmOne K (.ref S) (.ref S) = some true := by
  have h2' : (PySem.W.clsIn K S).isSome = true := h2
  have e1 : (PySem.W.subIn K (.ref S) (.type "BaseException") == some true) = true := by rw [h1] <;> rfl
  have e2 : ((PySem.W.clsIn K S).isSome && PySem.W.typeIn K (.ref S) == some (.type "type")) = true := by rw [h2', h3] <;> rfl
  show (if (PySem.W.subIn K (.ref S) (.type "BaseException") == some true) = true then (if ((PySem.W.clsIn K S).isSome && PySem.W.typeIn K (.ref S) == some (.type "type")) = true then PySem.W.subIn K (.ref S) (.ref S) else none) else none) = some true
  rw [if_pos e1, if_pos e2]
  exact h4
theorem rf_of {P : Program} {K : PySem.W.Frag} {C D fI cc cda N : Addr} {nm q : Str} {bs bm sub : List Value} {sn : List Str} {ab : Bool} {col : Option Bool} {dd : Option Addr} {k0 k1 k2 k3 k5 : Option Value}
    {oc kV doc pm ct : Value} {od an : Option Addr} {osl : Array (Option Value)} {ccl : Value} {cdd : Option Addr} {vs : Array Value} {ccs : Array (Option Value)} {file : Str} {tf : Tok} {cl : Value} {cld : Option Addr} {csl : Array (Option Value)} {cd : ClassData}
    (x1 : K.lookup C = some (excClassObj nm q C N bs bm true sn sub ab col dd k0 k1 k2 k3 k5 "ValueError.__new__")) (x2 : PySem.HandSPX.refsVE bm = true)
    (sa : PySem.W.findIn K (.ref C) "__setattr__" = some (some (.builtin "object.__setattr__"))) (ga : PySem.W.findIn K (.ref C) "__getattribute__" = some (some (.builtin "BaseException.__getattribute__"))) (gg : PySem.W.findIn K (.ref C) "__getattr__" = some none) (noN : PySem.W.findIn K (.ref C) "what" = some none)
    (jC : PySem.W.findIn K (.ref C) "__init__" = some (some (.ref fI))) (tC : PySem.W.typeIn K (.ref fI) = some (.type "function")) (exC : PySem.W.subIn K (.ref C) (.type "BaseException") = some true) (tyC : PySem.W.typeIn K (.ref C) = some (.type "type")) (hdC : PySem.W.hasDictIn K C = true)
    (y1 : K.lookup fI = some ⟨oc, od, .func (PySem.W.ksFn "__init__" "Refused.__init__" PySem.KJX.iA PySem.KJX.iB PySem.KJX.iS .none kV doc pm an (.ref cda) ct cc), osl⟩) (code : PySem.W.codeIn K (.ref cda) "Refused.__init__" = true)
    (u1 : K.lookup cda = some ⟨ccl, cdd, .fields vs, ccs⟩) (u2 : vs[2]? = some (.str file tf)) (u3 : ((P.main.file : Str) == file) = true) (v1 : K.lookup cc = some ⟨cl, cld, .cell (some (.ref D)), csl⟩) (w1 : PySem.W.clsIn K D = some cd)
    (subD : PySem.W.mroIn K C (.ref D) = some true) (opq : PySem.W.nsIn K cStatics "thirdparty.any" = some none) (sup : PySem.W.ks_superIn K C D "__init__" = some (some (.builtin "ValueError.__init__"))) (sB : PySem.W.subIn K (.ref C) (.type "ValueError") = some true)
    (top : (P.main.scope.names.lookup ("super" : Str)).isSome = false) : PySem.KJX.RfTxt P K C D fI cc cda :=
  ⟨⟨_, _, _, _, _, _, _, _, _, _, _, _, _, _, _, x1, x2⟩, sa, ga, gg, noN, jC, tC, exC, tyC, hdC, ⟨_, _, _, _, _, _, _, _, y1⟩, code, ⟨_, _, _, _, _, _, u1, u2, u3⟩, ⟨_, _, _, v1⟩, ⟨_, w1⟩, subD, opq, sup, sB, top⟩
theorem all_mk {l : PySem.W.OpenLaw} {w : World} {K : PySem.W.Frag} {h : Heap} {mg : Str → Option Value} {fa C D CT fI cc cda : Addr} {t1 t2 : Tok} (X : K.In h) (G : h.Ns mainGlobals mg) (hfa : mg "law" = some (.ref fa))
    (z_isinstance : PySem.W.nsIn K mainGlobals "isinstance" = some none)
    (z_int : PySem.W.nsIn K mainGlobals "int" = some none)
    (z_bool : PySem.W.nsIn K mainGlobals "bool" = some none)
    (z_tuple : PySem.W.nsIn K mainGlobals "tuple" = some none)
    (z_len : PySem.W.nsIn K mainGlobals "len" = some none)
    (z_enumerate : PySem.W.nsIn K mainGlobals "enumerate" = some none)
    (z_range : PySem.W.nsIn K mainGlobals "range" = some none)
    (z_all : PySem.W.nsIn K mainGlobals "all" = some none)
    (z_str : PySem.W.nsIn K mainGlobals "str" = some none)
    (z_max : PySem.W.nsIn K mainGlobals "max" = some none)
    (z_min : PySem.W.nsIn K mainGlobals "min" = some none)
    (z_list : PySem.W.nsIn K mainGlobals "list" = some none)
    (z_super : PySem.W.nsIn K mainGlobals "super" = some none)
    (zT : PySem.W.nsIn K mainGlobals "MOST_THINGS" = some (some (.int 24 t1))) (zR : PySem.W.nsIn K mainGlobals "MOST_ROOMS" = some (some (.int 4 t2)))
    (d_is_whole : DX K "is_whole" s_is_whole)
    (d_made_rooms : DX K "made_rooms" s_made_rooms)
    (d_is_rooms : DX K "is_rooms" s_is_rooms)
    (d_is_place : DX K "is_place" s_is_place)
    (d_lies_in_itself : DX K "lies_in_itself" s_lies_in_itself)
    (d_first_bad : DX K "first_bad" s_first_bad)
    (d_first_ring : DX K "first_ring" s_first_ring)
    (d_is_forest : DX K "is_forest" s_is_forest)
    (d_around : DX K "around" s_around)
    (d_put : DX K "put" s_put)
    (d_place_word : DX K "place_word" s_place_word)
    (d_forest_words : DX K "forest_words" s_forest_words)
    (d_base_text : DX K "base_text" s_base_text)
    (d_lay_text : DX K "lay_text" s_lay_text)
    (d_shut_text : DX K "shut_text" s_shut_text)
    (d_open_text : DX K "open_text" s_open_text)
    (d_names_of : DX K "names_of" s_names_of)
    (d_forest_read : DX K "forest_read" s_forest_read)
    (d_hang_read : DX K "hang_read" s_hang_read)
    (d_moves : DX K "moves" s_moves)
    (d_behind : DX K "behind" s_behind)
    (d_hangs_read : DX K "hangs_read" s_hangs_read)
    (d_closed : DX K "closed" s_closed)
    (d_row_read : DX K "row_read" s_row_read)
    (d_base_read : DX K "base_read" s_base_read)
    (d_read_journal : DX K "read_journal" s_read_journal)
    (d_law_pool : DX K "_law_pool" s_law_pool)
    (d_law_take : DX K "_law_take" s_law_take)
    (d_law_one : DX K "_law_one" s_law_one)
    (d_law_mixed : DX K "_law_mixed" s_law_mixed)
    (d_law_climb : DX K "_law_climb" s_law_climb)
    (d_law_beneath : DX K "_law_beneath" s_law_beneath)
    (d_law_hung : DX K "_law_hung" s_law_hung)
    (d_law_spelled : DX K "_law_spelled" s_law_spelled)
    (d_law_base : DX K "_law_base" s_law_base)
    (d_law_open : DX K "_law_open" s_law_open)
    (d_law_lay : DX K "_law_lay" s_law_lay)
    (d_law_number : DX K "_law_number" s_law_number)
    (d_law_rooms : DX K "_law_rooms" s_law_rooms)
    (d_law_grown : DX K "_law_grown" s_law_grown)
    (d_law_places : DX K "_law_places" s_law_places)
    (d_law_hang_row : DX K "_law_hang_row" s_law_hang_row)
    (d_law_journal : DX K "_law_journal" s_law_journal)
    (d_law_is_told : DX K "_law_is_told" s_law_is_told)
    (d_law_read_right : DX K "_law_read_right" s_law_read_right)
    (d_law_texts_right : DX K "_law_texts_right" s_law_texts_right)
    (d_law_long_right : DX K "_law_long_right" s_law_long_right)
    {f0 : Addr} {oc0 : Value} {od0 an0 : Option Addr} {osl0 : Array (Option Value)} {kV0 doc0 pm0 cd0 ct0 : Value} (a0 : PySem.W.nsIn K mainGlobals "law" = some (some (.ref f0))) (l0 : K.lookup f0 = some ⟨oc0, od0, .func (PySem.W.fnOf "law" "law" (defArgs s_law) (defBody s_law) (defScope s_law) .none kV0 doc0 pm0 an0 cd0 ct0), osl0⟩)
    (c0 : PySem.W.codeIn K cd0 "law" = true) (k0 : PySem.W.keepIn K (.ref f0) = true)
    (aC : PySem.W.nsIn K mainGlobals "BadJournal" = some (some (.ref C))) (kC : PySem.W.keepIn K (.ref C) = true) (aT : PySem.W.nsIn K mainGlobals "BadThing" = some (some (.ref CT)))
    (R : PySem.KJX.RfTxt l.prog K C D fI cc cda)
    (ha : PySem.W.findIn K (.ref C) "__class__" = some (some (.builtin "object.__class__"))) (hn : PySem.W.specialIn K (.builtin "object.__class__") "__get__" = some (some (.builtin "getset_descriptor.__get__"))) (ht : PySem.W.takesIn K (.builtin "object.__class__") = some true) (hm : PySem.W.mroIn K C (.type "object") = some true)
    (iC : PySem.W.isClsIn K C = true) (sC : PySem.W.subIn K (.ref C) (.ref C) = some true)
    (nT : (Value.ref C == Value.ref CT) = false) (iT : PySem.W.isClsIn K CT = true) (tT : PySem.W.typeIn K (.ref CT) = some (.type "type")) (sT : PySem.W.subIn K (.ref C) (.ref CT) = some false) :
    ∃ fd : FuncData, (∀ (s : Shared) (v : Value), BindsTo s fd ⟨[v], []⟩ [("_law_script", v)]) ∧ ∀ base : Heap, K.In base → base.Ns mainGlobals mg → FnOk l.prog w K mg base CX0 10 fa fd ["_law_script"] (spLaw K) := by
  have e := hfa.symm.trans (PySem.W.mg_of X G a0)
  cases e
  have T : Txt mg t1 t2 := ⟨PySem.W.mg_none_of X G z_isinstance, PySem.W.mg_none_of X G z_int, PySem.W.mg_none_of X G z_bool, PySem.W.mg_none_of X G z_tuple, PySem.W.mg_none_of X G z_len, PySem.W.mg_none_of X G z_enumerate, PySem.W.mg_none_of X G z_range, PySem.W.mg_none_of X G z_all, PySem.W.mg_none_of X G z_str, PySem.W.mg_none_of X G z_max, PySem.W.mg_none_of X G z_min, PySem.W.mg_none_of X G z_list, PySem.W.mg_of X G zT, PySem.W.mg_of X G zR⟩
  have hS : mg "super" = none := PySem.W.mg_none_of X G z_super
  have gC := PySem.W.mg_of X G aC
  have B : BJ K mg C CT := ⟨gC, PySem.W.mg_of X G aT, ⟨R.ga, R.gg, R.exC, R.hdC⟩, R.noN, ⟨R.ga, R.gg, R.exC, R.hdC, ha, hn, ht, hm⟩, exm_own R.exC iC R.tyC sC, kit_cls nT iT tT sT⟩
  obtain ⟨f_is_whole, fd_is_whole, a_is_whole, F_is_whole⟩ := d_is_whole
  have b_is_whole := F_is_whole.binds (ps := ["value"]) fun _ _ _ _ _ _ us hl => match us, hl with | [_], _ => rfl
  obtain ⟨f_made_rooms, fd_made_rooms, a_made_rooms, F_made_rooms⟩ := d_made_rooms
  have b_made_rooms := F_made_rooms.binds (ps := ["thing"]) fun _ _ _ _ _ _ us hl => match us, hl with | [_], _ => rfl
  obtain ⟨f_is_rooms, fd_is_rooms, a_is_rooms, F_is_rooms⟩ := d_is_rooms
  have b_is_rooms := F_is_rooms.binds (ps := ["thing"]) fun _ _ _ _ _ _ us hl => match us, hl with | [_], _ => rfl
  obtain ⟨f_is_place, fd_is_place, a_is_place, F_is_place⟩ := d_is_place
  have b_is_place := F_is_place.binds (ps := ["rooms", "x", "place"]) fun _ _ _ _ _ _ us hl => match us, hl with | [_, _, _], _ => rfl
  obtain ⟨f_lies_in_itself, fd_lies_in_itself, a_lies_in_itself, F_lies_in_itself⟩ := d_lies_in_itself
  have b_lies_in_itself := F_lies_in_itself.binds (ps := ["forest", "x"]) fun _ _ _ _ _ _ us hl => match us, hl with | [_, _], _ => rfl
  obtain ⟨f_first_bad, fd_first_bad, a_first_bad, F_first_bad⟩ := d_first_bad
  have b_first_bad := F_first_bad.binds (ps := ["rooms", "forest"]) fun _ _ _ _ _ _ us hl => match us, hl with | [_, _], _ => rfl
  obtain ⟨f_first_ring, fd_first_ring, a_first_ring, F_first_ring⟩ := d_first_ring
  have b_first_ring := F_first_ring.binds (ps := ["forest"]) fun _ _ _ _ _ _ us hl => match us, hl with | [_], _ => rfl
  obtain ⟨f_is_forest, fd_is_forest, a_is_forest, F_is_forest⟩ := d_is_forest
  have b_is_forest := F_is_forest.binds (ps := ["rooms", "forest"]) fun _ _ _ _ _ _ us hl => match us, hl with | [_, _], _ => rfl
  obtain ⟨f_around, fd_around, a_around, F_around⟩ := d_around
  have b_around := F_around.binds (ps := ["forest", "x"]) fun _ _ _ _ _ _ us hl => match us, hl with | [_, _], _ => rfl
  obtain ⟨f_put, fd_put, a_put, F_put⟩ := d_put
  have b_put := F_put.binds (ps := ["forest", "x", "place"]) fun _ _ _ _ _ _ us hl => match us, hl with | [_, _, _], _ => rfl
  obtain ⟨f_place_word, fd_place_word, a_place_word, F_place_word⟩ := d_place_word
  have b_place_word := F_place_word.binds (ps := ["place"]) fun _ _ _ _ _ _ us hl => match us, hl with | [_], _ => rfl
  obtain ⟨f_forest_words, fd_forest_words, a_forest_words, F_forest_words⟩ := d_forest_words
  have b_forest_words := F_forest_words.binds (ps := ["forest"]) fun _ _ _ _ _ _ us hl => match us, hl with | [_], _ => rfl
  obtain ⟨f_base_text, fd_base_text, a_base_text, F_base_text⟩ := d_base_text
  have b_base_text := F_base_text.binds (ps := ["forest"]) fun _ _ _ _ _ _ us hl => match us, hl with | [_], _ => rfl
  obtain ⟨f_lay_text, fd_lay_text, a_lay_text, F_lay_text⟩ := d_lay_text
  have b_lay_text := F_lay_text.binds (ps := ["number", "forest"]) fun _ _ _ _ _ _ us hl => match us, hl with | [_, _], _ => rfl
  obtain ⟨f_shut_text, fd_shut_text, a_shut_text, F_shut_text⟩ := d_shut_text
  have b_shut_text := F_shut_text.binds (ps := ["number"]) fun _ _ _ _ _ _ us hl => match us, hl with | [_], _ => rfl
  obtain ⟨f_open_text, fd_open_text, a_open_text, F_open_text⟩ := d_open_text
  have b_open_text := F_open_text.binds (ps := ["number", "hangs"]) fun _ _ _ _ _ _ us hl => match us, hl with | [_, _], _ => rfl
  obtain ⟨f_names_of, fd_names_of, a_names_of, F_names_of⟩ := d_names_of
  have b_names_of := F_names_of.binds (ps := ["rooms"]) fun _ _ _ _ _ _ us hl => match us, hl with | [_], _ => rfl
  obtain ⟨f_forest_read, fd_forest_read, a_forest_read, F_forest_read⟩ := d_forest_read
  have b_forest_read := F_forest_read.binds (ps := ["rooms", "places", "words"]) fun _ _ _ _ _ _ us hl => match us, hl with | [_, _, _], _ => rfl
  obtain ⟨f_hang_read, fd_hang_read, a_hang_read, F_hang_read⟩ := d_hang_read
  have b_hang_read := F_hang_read.binds (ps := ["names", "word"]) fun _ _ _ _ _ _ us hl => match us, hl with | [_, _], _ => rfl
  obtain ⟨f_moves, fd_moves, a_moves, F_moves⟩ := d_moves
  have b_moves := F_moves.binds (ps := ["rooms", "forest", "x", "place"]) fun _ _ _ _ _ _ us hl => match us, hl with | [_, _, _, _], _ => rfl
  obtain ⟨f_behind, fd_behind, a_behind, F_behind⟩ := d_behind
  have b_behind := F_behind.binds (ps := ["forest", "hangs"]) fun _ _ _ _ _ _ us hl => match us, hl with | [_, _], _ => rfl
  obtain ⟨f_hangs_read, fd_hangs_read, a_hangs_read, F_hangs_read⟩ := d_hangs_read
  have b_hangs_read := F_hangs_read.binds (ps := ["rooms", "names", "forest", "words"]) fun _ _ _ _ _ _ us hl => match us, hl with | [_, _, _, _], _ => rfl
  obtain ⟨f_closed, fd_closed, a_closed, F_closed⟩ := d_closed
  have b_closed := F_closed.binds (ps := ["forest", "pending"]) fun _ _ _ _ _ _ us hl => match us, hl with | [_, _], _ => rfl
  obtain ⟨f_row_read, fd_row_read, a_row_read, F_row_read⟩ := d_row_read
  have b_row_read := F_row_read.binds (ps := ["rooms", "names", "told", "words"]) fun _ _ _ _ _ _ us hl => match us, hl with | [_, _, _, _], _ => rfl
  obtain ⟨f_base_read, fd_base_read, a_base_read, F_base_read⟩ := d_base_read
  have b_base_read := F_base_read.binds (ps := ["rooms", "names", "words"]) fun _ _ _ _ _ _ us hl => match us, hl with | [_, _, _], _ => rfl
  obtain ⟨f_read_journal, fd_read_journal, a_read_journal, F_read_journal⟩ := d_read_journal
  have b_read_journal := F_read_journal.binds (ps := ["rooms", "text"]) fun _ _ _ _ _ _ us hl => match us, hl with | [_, _], _ => rfl
  obtain ⟨f_law_pool, fd_law_pool, a_law_pool, F_law_pool⟩ := d_law_pool
  have b_law_pool := F_law_pool.binds (ps := ["_law_script", "_law_k"]) fun _ _ _ _ _ _ us hl => match us, hl with | [_, _], _ => rfl
  obtain ⟨f_law_take, fd_law_take, a_law_take, F_law_take⟩ := d_law_take
  have b_law_take := F_law_take.binds (ps := ["_law_source", "_law_top"]) fun _ _ _ _ _ _ us hl => match us, hl with | [_, _], _ => rfl
  obtain ⟨f_law_one, fd_law_one, a_law_one, F_law_one⟩ := d_law_one
  have b_law_one := F_law_one.binds (ps := ["_law_source", "_law_things"]) fun _ _ _ _ _ _ us hl => match us, hl with | [_, _], _ => rfl
  obtain ⟨f_law_mixed, fd_law_mixed, a_law_mixed, F_law_mixed⟩ := d_law_mixed
  have b_law_mixed := F_law_mixed.binds (ps := ["_law_source", "_law_things"]) fun _ _ _ _ _ _ us hl => match us, hl with | [_, _], _ => rfl
  obtain ⟨f_law_climb, fd_law_climb, a_law_climb, F_law_climb⟩ := d_law_climb
  have b_law_climb := F_law_climb.binds (ps := ["_law_forest", "_law_x"]) fun _ _ _ _ _ _ us hl => match us, hl with | [_, _], _ => rfl
  obtain ⟨f_law_beneath, fd_law_beneath, a_law_beneath, F_law_beneath⟩ := d_law_beneath
  have b_law_beneath := F_law_beneath.binds (ps := ["_law_forest", "_law_x"]) fun _ _ _ _ _ _ us hl => match us, hl with | [_, _], _ => rfl
  obtain ⟨f_law_hung, fd_law_hung, a_law_hung, F_law_hung⟩ := d_law_hung
  have b_law_hung := F_law_hung.binds (ps := ["_law_forest", "_law_x", "_law_place"]) fun _ _ _ _ _ _ us hl => match us, hl with | [_, _, _], _ => rfl
  obtain ⟨f_law_spelled, fd_law_spelled, a_law_spelled, F_law_spelled⟩ := d_law_spelled
  have b_law_spelled := F_law_spelled.binds (ps := ["_law_place"]) fun _ _ _ _ _ _ us hl => match us, hl with | [_], _ => rfl
  obtain ⟨f_law_base, fd_law_base, a_law_base, F_law_base⟩ := d_law_base
  have b_law_base := F_law_base.binds (ps := ["_law_forest"]) fun _ _ _ _ _ _ us hl => match us, hl with | [_], _ => rfl
  obtain ⟨f_law_open, fd_law_open, a_law_open, F_law_open⟩ := d_law_open
  have b_law_open := F_law_open.binds (ps := ["_law_number_here", "_law_row"]) fun _ _ _ _ _ _ us hl => match us, hl with | [_, _], _ => rfl
  obtain ⟨f_law_lay, fd_law_lay, a_law_lay, F_law_lay⟩ := d_law_lay
  have b_law_lay := F_law_lay.binds (ps := ["_law_number_here", "_law_forest"]) fun _ _ _ _ _ _ us hl => match us, hl with | [_, _], _ => rfl
  obtain ⟨f_law_number, fd_law_number, a_law_number, F_law_number⟩ := d_law_number
  have b_law_number := F_law_number.binds (ps := ["_law_thing", "_law_most"]) fun _ _ _ _ _ _ us hl => match us, hl with | [_, _], _ => rfl
  obtain ⟨f_law_rooms, fd_law_rooms, a_law_rooms, F_law_rooms⟩ := d_law_rooms
  have b_law_rooms := F_law_rooms.binds (ps := ["_law_source", "_law_many"]) fun _ _ _ _ _ _ us hl => match us, hl with | [_, _], _ => rfl
  obtain ⟨f_law_grown, fd_law_grown, a_law_grown, F_law_grown⟩ := d_law_grown
  have b_law_grown := F_law_grown.binds (ps := ["_law_source", "_law_rooms_here"]) fun _ _ _ _ _ _ us hl => match us, hl with | [_, _], _ => rfl
  obtain ⟨f_law_places, fd_law_places, a_law_places, F_law_places⟩ := d_law_places
  have b_law_places := F_law_places.binds (ps := ["_law_rooms_here", "_law_forest", "_law_x"]) fun _ _ _ _ _ _ us hl => match us, hl with | [_, _, _], _ => rfl
  obtain ⟨f_law_hang_row, fd_law_hang_row, a_law_hang_row, F_law_hang_row⟩ := d_law_hang_row
  have b_law_hang_row := F_law_hang_row.binds (ps := ["_law_source", "_law_rooms_here", "_law_forest"]) fun _ _ _ _ _ _ us hl => match us, hl with | [_, _, _], _ => rfl
  obtain ⟨f_law_journal, fd_law_journal, a_law_journal, F_law_journal⟩ := d_law_journal
  have b_law_journal := F_law_journal.binds (ps := ["_law_source", "_law_rooms_here", "_law_forest"]) fun _ _ _ _ _ _ us hl => match us, hl with | [_, _, _], _ => rfl
  obtain ⟨f_law_is_told, fd_law_is_told, a_law_is_told, F_law_is_told⟩ := d_law_is_told
  have b_law_is_told := F_law_is_told.binds (ps := ["_law_told", "_law_due"]) fun _ _ _ _ _ _ us hl => match us, hl with | [_, _], _ => rfl
  obtain ⟨f_law_read_right, fd_law_read_right, a_law_read_right, F_law_read_right⟩ := d_law_read_right
  have b_law_read_right := F_law_read_right.binds (ps := ["_law_rooms_here", "_law_rows", "_law_states", "_law_at"]) fun _ _ _ _ _ _ us hl => match us, hl with | [_, _, _, _], _ => rfl
  obtain ⟨f_law_texts_right, fd_law_texts_right, a_law_texts_right, F_law_texts_right⟩ := d_law_texts_right
  have b_law_texts_right := F_law_texts_right.binds (ps := ["_law_source", "_law_rooms_here", "_law_forest"]) fun _ _ _ _ _ _ us hl => match us, hl with | [_, _, _], _ => rfl
  obtain ⟨f_law_long_right, fd_law_long_right, a_law_long_right, F_law_long_right⟩ := d_law_long_right
  have b_law_long_right := F_law_long_right.binds (ps := ["_law_source"]) fun _ _ _ _ _ _ us hl => match us, hl with | [_], _ => rfl
  refine ⟨PySem.W.fnOf "law" "law" (defArgs s_law) (defBody s_law) (defScope s_law) .none kV0 doc0 pm0 an0 cd0 ct0, fun s v => .of_eq rfl, fun base _ _ => ?_⟩
  have c_is_whole : Cal l.prog w K mg base 1 "is_whole" sp_is_whole := mk_cal X G a_is_whole F_is_whole b_is_whole (ok_is_whole T  F_is_whole)
  have c_made_rooms : Cal l.prog w K mg base 2 "made_rooms" sp_made_rooms := mk_cal X G a_made_rooms F_made_rooms b_made_rooms (ok_made_rooms T c_is_whole F_made_rooms)
  have c_is_rooms : Cal l.prog w K mg base 2 "is_rooms" sp_is_rooms := mk_cal X G a_is_rooms F_is_rooms b_is_rooms (ok_is_rooms T c_is_whole F_is_rooms)
  have c_is_place : Cal l.prog w K mg base 2 "is_place" sp_is_place := mk_cal X G a_is_place F_is_place b_is_place (ok_is_place T c_is_whole F_is_place)
  have c_lies_in_itself : Cal l.prog w K mg base 1 "lies_in_itself" sp_lies := mk_cal X G a_lies_in_itself F_lies_in_itself b_lies_in_itself (ok_lies_in_itself T  F_lies_in_itself)
  have c_first_bad : Cal l.prog w K mg base 3 "first_bad" sp_first_bad := mk_cal X G a_first_bad F_first_bad b_first_bad (ok_first_bad T c_is_place F_first_bad)
  have c_first_ring : Cal l.prog w K mg base 2 "first_ring" sp_first_ring := mk_cal X G a_first_ring F_first_ring b_first_ring (ok_first_ring T c_lies_in_itself F_first_ring)
  have c_is_forest : Cal l.prog w K mg base 4 "is_forest" sp_is_forest := mk_cal X G a_is_forest F_is_forest b_is_forest (ok_is_forest T c_is_rooms c_first_bad c_first_ring F_is_forest)
  have c_around : Cal l.prog w K mg base 1 "around" sp_around := mk_cal X G a_around F_around b_around (ok_around T  F_around)
  have c_put : Cal l.prog w K mg base 1 "put" sp_put := mk_cal X G a_put F_put b_put (ok_put T  F_put)
  have c_place_word : Cal l.prog w K mg base 1 "place_word" sp_place_word := mk_cal X G a_place_word F_place_word b_place_word (ok_place_word T  F_place_word)
  have c_forest_words : Cal l.prog w K mg base 2 "forest_words" sp_forest_words := mk_cal X G a_forest_words F_forest_words b_forest_words (ok_forest_words T c_place_word F_forest_words)
  have c_base_text : Cal l.prog w K mg base 3 "base_text" sp_base_text := mk_cal X G a_base_text F_base_text b_base_text (ok_base_text T c_forest_words F_base_text)
  have c_lay_text : Cal l.prog w K mg base 3 "lay_text" sp_lay_text := mk_cal X G a_lay_text F_lay_text b_lay_text (ok_lay_text T c_forest_words F_lay_text)
  have c_shut_text : Cal l.prog w K mg base 1 "shut_text" sp_shut_text := mk_cal X G a_shut_text F_shut_text b_shut_text (ok_shut_text T  F_shut_text)
  have c_open_text : Cal l.prog w K mg base 2 "open_text" sp_open_text := mk_cal X G a_open_text F_open_text b_open_text (ok_open_text T c_place_word F_open_text)
  have c_names_of : Cal l.prog w K mg base 2 "names_of" sp_names_of := mk_cal X G a_names_of F_names_of b_names_of (ok_names_of T c_place_word F_names_of)
  have c_forest_read : Cal l.prog w K mg base 5 "forest_read" sp_forest_read := mk_cal X G a_forest_read F_forest_read b_forest_read (ok_forest_read T c_is_forest F_forest_read)
  have c_hang_read : Cal l.prog w K mg base 1 "hang_read" sp_hang_read := mk_cal X G a_hang_read F_hang_read b_hang_read (ok_hang_read T  F_hang_read)
  have c_moves : Cal l.prog w K mg base 3 "moves" sp_moves := mk_cal X G a_moves F_moves b_moves (ok_moves T c_is_place c_around F_moves)
  have c_behind : Cal l.prog w K mg base 2 "behind" sp_behind := mk_cal X G a_behind F_behind b_behind (ok_behind T c_put F_behind)
  have c_hangs_read : Cal l.prog w K mg base 4 "hangs_read" sp_hangs_read := mk_cal X G a_hangs_read F_hangs_read b_hangs_read (ok_hangs_read T c_hang_read c_moves c_put F_hangs_read)
  have c_closed : Cal l.prog w K mg base 3 "closed" sp_closed := mk_cal X G a_closed F_closed b_closed (ok_closed T c_behind F_closed)
  have c_row_read : Cal l.prog w K mg base 6 "row_read" sp_row_read := mk_cal X G a_row_read F_row_read b_row_read (ok_row_read T c_closed c_hangs_read c_forest_read F_row_read)
  have c_base_read : Cal l.prog w K mg base 6 "base_read" sp_base_read := mk_cal X G a_base_read F_base_read b_base_read (ok_base_read T c_forest_read F_base_read)
  have J : JF l.prog w K mg base C := ⟨f_read_journal, fd_read_journal, ok_read_journal T R gC kC hS c_made_rooms c_names_of c_base_read c_row_read F_read_journal, PySem.W.mg_of X G a_read_journal, F_read_journal.2, b_read_journal⟩
  have c_law_pool : Cal l.prog w K mg base 1 "_law_pool" (sp_pool K) := mk_cal X G a_law_pool F_law_pool b_law_pool (ok_law_pool T  F_law_pool)
  have c_law_take : Cal l.prog w K mg base 1 "_law_take" sp_take := mk_cal X G a_law_take F_law_take b_law_take (ok_law_take T  F_law_take)
  have c_law_one : Cal l.prog w K mg base 2 "_law_one" sp_one := mk_cal X G a_law_one F_law_one b_law_one (ok_law_one T c_law_take F_law_one)
  have c_law_mixed : Cal l.prog w K mg base 2 "_law_mixed" sp_mixed := mk_cal X G a_law_mixed F_law_mixed b_law_mixed (ok_law_mixed T c_law_take F_law_mixed)
  have c_law_climb : Cal l.prog w K mg base 1 "_law_climb" sp_climb := mk_cal X G a_law_climb F_law_climb b_law_climb (ok_law_climb T  F_law_climb)
  have c_law_beneath : Cal l.prog w K mg base 2 "_law_beneath" sp_beneath := mk_cal X G a_law_beneath F_law_beneath b_law_beneath (ok_law_beneath T c_law_climb F_law_beneath)
  have c_law_hung : Cal l.prog w K mg base 1 "_law_hung" sp_put := mk_cal X G a_law_hung F_law_hung b_law_hung (ok_law_hung T  F_law_hung)
  have c_law_spelled : Cal l.prog w K mg base 1 "_law_spelled" sp_place_word := mk_cal X G a_law_spelled F_law_spelled b_law_spelled (ok_law_spelled T  F_law_spelled)
  have c_law_base : Cal l.prog w K mg base 2 "_law_base" sp_base_text := mk_cal X G a_law_base F_law_base b_law_base (ok_law_base T c_law_spelled F_law_base)
  have c_law_open : Cal l.prog w K mg base 2 "_law_open" sp_lopen := mk_cal X G a_law_open F_law_open b_law_open (ok_law_open T c_law_spelled F_law_open)
  have c_law_lay : Cal l.prog w K mg base 2 "_law_lay" sp_lay_text := mk_cal X G a_law_lay F_law_lay b_law_lay (ok_law_lay T c_law_spelled F_law_lay)
  have c_law_number : Cal l.prog w K mg base 1 "_law_number" sp_number := mk_cal X G a_law_number F_law_number b_law_number (ok_law_number T  F_law_number)
  have c_law_rooms : Cal l.prog w K mg base 3 "_law_rooms" sp_rooms := mk_cal X G a_law_rooms F_law_rooms b_law_rooms (ok_law_rooms T c_law_one F_law_rooms)
  have c_law_grown : Cal l.prog w K mg base 3 "_law_grown" sp_grown := mk_cal X G a_law_grown F_law_grown b_law_grown (ok_law_grown T c_law_take c_law_one c_law_mixed F_law_grown)
  have c_law_places : Cal l.prog w K mg base 3 "_law_places" sp_places := mk_cal X G a_law_places F_law_places b_law_places (ok_law_places T c_law_beneath F_law_places)
  have c_law_hang_row : Cal l.prog w K mg base 4 "_law_hang_row" sp_hang_row := mk_cal X G a_law_hang_row F_law_hang_row b_law_hang_row (ok_law_hang_row T c_law_take c_law_one c_law_places c_law_hung F_law_hang_row)
  have c_law_journal : Cal l.prog w K mg base 5 "_law_journal" sp_journal := mk_cal X G a_law_journal F_law_journal b_law_journal (ok_law_journal T c_law_take c_law_one c_law_grown c_law_hang_row c_law_base c_law_open c_law_lay F_law_journal)
  have c_law_is_told : Cal l.prog w K mg base 2 "_law_is_told" sp_is_told := mk_cal X G a_law_is_told F_law_is_told b_law_is_told (ok_law_is_told T c_law_number F_law_is_told)
  have c_law_read_right : Cal l.prog w K mg base 8 "_law_read_right" sp_read_right := mk_cal X G a_law_read_right F_law_read_right b_law_read_right (ok_law_read_right T J B c_law_is_told F_law_read_right)
  have c_law_texts_right : Cal l.prog w K mg base 5 "_law_texts_right" sp_texts_right := mk_cal X G a_law_texts_right F_law_texts_right b_law_texts_right (ok_law_texts_right T c_law_take c_law_grown c_law_hang_row c_law_base c_law_open c_law_lay c_base_text c_lay_text c_open_text c_shut_text F_law_texts_right)
  have c_law_long_right : Cal l.prog w K mg base 9 "_law_long_right" sp_long_right := mk_cal X G a_law_long_right F_law_long_right b_law_long_right (ok_law_long_right T c_law_take c_law_base c_law_open c_law_read_right F_law_long_right)
  exact ok_law T J c_law_pool c_law_take c_law_rooms c_law_grown c_law_journal c_law_read_right c_law_texts_right c_law_long_right c_base_text c_lay_text c_open_text (fun_mk (st := s_law) l0 c0 k0)
end KJ
open PySem PySem.W PyProof.Rows
set_option maxHeartbeats 0 in
theorem PySem.Challenge.cw_nestsay_k18_journal_rows_and_every_begin_holds : PySem.Challenge.rw_nestsay_k18_journal_rows_and_every_begin.Holds := by
  w_on; o_law; k_head; (case hw => w_witness2)
  k_fill
  refine L2.walk_of (l := PySem.Challenge.rw_nestsay_k18_journal_rows_and_every_begin) (n := 63) (k := 10) (x := "_law_script") (CX := fun _ => L2.CX0) (sp := fun w => KJ.spLaw _) rfl (by decide) rfl ⟨rfl, by decide, by decide⟩ (fun w h Y => PySem.W.kIn_of Y) ?F (fun _ _ a ns hl _ hS => ⟨a, ns, rfl, hS, hl, fun _ => rfl⟩) (fun _ _ _ _ _ z => z)
  case F =>
    intro w mg fa h KX G hmg
    refine' KJ.all_mk KX G hmg ?z_isinstance ?z_int ?z_bool ?z_tuple ?z_len ?z_enumerate ?z_range ?z_all ?z_str ?z_max ?z_min ?z_list ?z_super ?zT ?zR ?d_is_whole ?d_made_rooms ?d_is_rooms ?d_is_place ?d_lies_in_itself ?d_first_bad ?d_first_ring ?d_is_forest ?d_around ?d_put ?d_place_word ?d_forest_words ?d_base_text ?d_lay_text ?d_shut_text ?d_open_text ?d_names_of ?d_forest_read ?d_hang_read ?d_moves ?d_behind ?d_hangs_read ?d_closed ?d_row_read ?d_base_read ?d_read_journal ?d_law_pool ?d_law_take ?d_law_one ?d_law_mixed ?d_law_climb ?d_law_beneath ?d_law_hung ?d_law_spelled ?d_law_base ?d_law_open ?d_law_lay ?d_law_number ?d_law_rooms ?d_law_grown ?d_law_places ?d_law_hang_row ?d_law_journal ?d_law_is_told ?d_law_read_right ?d_law_texts_right ?d_law_long_right ?a0 ?l0 ?c0 ?k0 ?aC ?kC ?aT ?R ?ha ?hn ?ht ?hm ?iC ?sC ?nT ?iT ?tT ?sT
    (case z_isinstance => k_is)
    (case z_int => k_is)
    (case z_bool => k_is)
    (case z_tuple => k_is)
    (case z_len => k_is)
    (case z_enumerate => k_is)
    (case z_range => k_is)
    (case z_all => k_is)
    (case z_str => k_is)
    (case z_max => k_is)
    (case z_min => k_is)
    (case z_list => k_is)
    (case z_super => k_is)
    (case zT => k_is)
    (case zR => k_is)
    (case d_is_whole => refine' KJ.DX.of ?a ?l ?c ?k; (case a => k_is); (case l => k_is); (case c => k_is); (case k => k_is))
    (case d_made_rooms => refine' KJ.DX.of ?a ?l ?c ?k; (case a => k_is); (case l => k_is); (case c => k_is); (case k => k_is))
    (case d_is_rooms => refine' KJ.DX.of ?a ?l ?c ?k; (case a => k_is); (case l => k_is); (case c => k_is); (case k => k_is))
    (case d_is_place => refine' KJ.DX.of ?a ?l ?c ?k; (case a => k_is); (case l => k_is); (case c => k_is); (case k => k_is))
    (case d_lies_in_itself => refine' KJ.DX.of ?a ?l ?c ?k; (case a => k_is); (case l => k_is); (case c => k_is); (case k => k_is))
    (case d_first_bad => refine' KJ.DX.of ?a ?l ?c ?k; (case a => k_is); (case l => k_is); (case c => k_is); (case k => k_is))
    (case d_first_ring => refine' KJ.DX.of ?a ?l ?c ?k; (case a => k_is); (case l => k_is); (case c => k_is); (case k => k_is))
    (case d_is_forest => refine' KJ.DX.of ?a ?l ?c ?k; (case a => k_is); (case l => k_is); (case c => k_is); (case k => k_is))
    (case d_around => refine' KJ.DX.of ?a ?l ?c ?k; (case a => k_is); (case l => k_is); (case c => k_is); (case k => k_is))
    (case d_put => refine' KJ.DX.of ?a ?l ?c ?k; (case a => k_is); (case l => k_is); (case c => k_is); (case k => k_is))
    (case d_place_word => refine' KJ.DX.of ?a ?l ?c ?k; (case a => k_is); (case l => k_is); (case c => k_is); (case k => k_is))
    (case d_forest_words => refine' KJ.DX.of ?a ?l ?c ?k; (case a => k_is); (case l => k_is); (case c => k_is); (case k => k_is))
    (case d_base_text => refine' KJ.DX.of ?a ?l ?c ?k; (case a => k_is); (case l => k_is); (case c => k_is); (case k => k_is))
    (case d_lay_text => refine' KJ.DX.of ?a ?l ?c ?k; (case a => k_is); (case l => k_is); (case c => k_is); (case k => k_is))
    (case d_shut_text => refine' KJ.DX.of ?a ?l ?c ?k; (case a => k_is); (case l => k_is); (case c => k_is); (case k => k_is))
    (case d_open_text => refine' KJ.DX.of ?a ?l ?c ?k; (case a => k_is); (case l => k_is); (case c => k_is); (case k => k_is))
    (case d_names_of => refine' KJ.DX.of ?a ?l ?c ?k; (case a => k_is); (case l => k_is); (case c => k_is); (case k => k_is))
    (case d_forest_read => refine' KJ.DX.of ?a ?l ?c ?k; (case a => k_is); (case l => k_is); (case c => k_is); (case k => k_is))
    (case d_hang_read => refine' KJ.DX.of ?a ?l ?c ?k; (case a => k_is); (case l => k_is); (case c => k_is); (case k => k_is))
    (case d_moves => refine' KJ.DX.of ?a ?l ?c ?k; (case a => k_is); (case l => k_is); (case c => k_is); (case k => k_is))
    (case d_behind => refine' KJ.DX.of ?a ?l ?c ?k; (case a => k_is); (case l => k_is); (case c => k_is); (case k => k_is))
    (case d_hangs_read => refine' KJ.DX.of ?a ?l ?c ?k; (case a => k_is); (case l => k_is); (case c => k_is); (case k => k_is))
    (case d_closed => refine' KJ.DX.of ?a ?l ?c ?k; (case a => k_is); (case l => k_is); (case c => k_is); (case k => k_is))
    (case d_row_read => refine' KJ.DX.of ?a ?l ?c ?k; (case a => k_is); (case l => k_is); (case c => k_is); (case k => k_is))
    (case d_base_read => refine' KJ.DX.of ?a ?l ?c ?k; (case a => k_is); (case l => k_is); (case c => k_is); (case k => k_is))
    (case d_read_journal => refine' KJ.DX.of ?a ?l ?c ?k; (case a => k_is); (case l => k_is); (case c => k_is); (case k => k_is))
    (case d_law_pool => refine' KJ.DX.of ?a ?l ?c ?k; (case a => k_is); (case l => k_is); (case c => k_is); (case k => k_is))
    (case d_law_take => refine' KJ.DX.of ?a ?l ?c ?k; (case a => k_is); (case l => k_is); (case c => k_is); (case k => k_is))
    (case d_law_one => refine' KJ.DX.of ?a ?l ?c ?k; (case a => k_is); (case l => k_is); (case c => k_is); (case k => k_is))
    (case d_law_mixed => refine' KJ.DX.of ?a ?l ?c ?k; (case a => k_is); (case l => k_is); (case c => k_is); (case k => k_is))
    (case d_law_climb => refine' KJ.DX.of ?a ?l ?c ?k; (case a => k_is); (case l => k_is); (case c => k_is); (case k => k_is))
    (case d_law_beneath => refine' KJ.DX.of ?a ?l ?c ?k; (case a => k_is); (case l => k_is); (case c => k_is); (case k => k_is))
    (case d_law_hung => refine' KJ.DX.of ?a ?l ?c ?k; (case a => k_is); (case l => k_is); (case c => k_is); (case k => k_is))
    (case d_law_spelled => refine' KJ.DX.of ?a ?l ?c ?k; (case a => k_is); (case l => k_is); (case c => k_is); (case k => k_is))
    (case d_law_base => refine' KJ.DX.of ?a ?l ?c ?k; (case a => k_is); (case l => k_is); (case c => k_is); (case k => k_is))
    (case d_law_open => refine' KJ.DX.of ?a ?l ?c ?k; (case a => k_is); (case l => k_is); (case c => k_is); (case k => k_is))
    (case d_law_lay => refine' KJ.DX.of ?a ?l ?c ?k; (case a => k_is); (case l => k_is); (case c => k_is); (case k => k_is))
    (case d_law_number => refine' KJ.DX.of ?a ?l ?c ?k; (case a => k_is); (case l => k_is); (case c => k_is); (case k => k_is))
    (case d_law_rooms => refine' KJ.DX.of ?a ?l ?c ?k; (case a => k_is); (case l => k_is); (case c => k_is); (case k => k_is))
    (case d_law_grown => refine' KJ.DX.of ?a ?l ?c ?k; (case a => k_is); (case l => k_is); (case c => k_is); (case k => k_is))
    (case d_law_places => refine' KJ.DX.of ?a ?l ?c ?k; (case a => k_is); (case l => k_is); (case c => k_is); (case k => k_is))
    (case d_law_hang_row => refine' KJ.DX.of ?a ?l ?c ?k; (case a => k_is); (case l => k_is); (case c => k_is); (case k => k_is))
    (case d_law_journal => refine' KJ.DX.of ?a ?l ?c ?k; (case a => k_is); (case l => k_is); (case c => k_is); (case k => k_is))
    (case d_law_is_told => refine' KJ.DX.of ?a ?l ?c ?k; (case a => k_is); (case l => k_is); (case c => k_is); (case k => k_is))
    (case d_law_read_right => refine' KJ.DX.of ?a ?l ?c ?k; (case a => k_is); (case l => k_is); (case c => k_is); (case k => k_is))
    (case d_law_texts_right => refine' KJ.DX.of ?a ?l ?c ?k; (case a => k_is); (case l => k_is); (case c => k_is); (case k => k_is))
    (case d_law_long_right => refine' KJ.DX.of ?a ?l ?c ?k; (case a => k_is); (case l => k_is); (case c => k_is); (case k => k_is))
    (case a0 => k_is)
    (case l0 => k_is)
    (case c0 => k_is)
    (case k0 => k_is)
    (case aC => k_is)
    (case kC => k_is)
    (case aT => k_is)
    (case R =>
      refine' KJ.rf_of ?x1 ?x2 ?sa ?ga ?gg ?noN ?jC ?tC ?exC ?tyC ?hdC ?y1 ?code ?u1 ?u2 ?u3 ?v1 ?w1 ?subD ?opq ?sup ?sB ?top
      (case x1 => k_is)
      (case x2 => decide +kernel)
      (case sa => k_is)
      (case ga => k_is)
      (case gg => k_is)
      (case noN => k_is)
      (case jC => k_is)
      (case tC => k_is)
      (case exC => k_is)
      (case tyC => k_is)
      (case hdC => k_is)
      (case y1 => k_is)
      (case code => k_is)
      (case u1 => k_is)
      (case u2 => rfl)
      (case u3 => decide +kernel)
      (case v1 => k_is)
      (case w1 => k_is)
      (case subD => k_is)
      (case opq => k_is)
      (case sup => ks_is)
      (case sB => k_is)
      (case top => decide +kernel))
    (case ha => k_is)
    (case hn => k_is)
    (case ht => k_is)
    (case hm => k_is)
    (case iC => k_is)
    (case sC => first | rfl | k_is)
    (case nT => decide +kernel)
    (case iT => k_is)
    (case tT => k_is)
    (case sT => k_is)
