import PyProof.Rows.All
import Wide.All
import OpenK.AllK
import Wide.FinOn
import KE.KStateDown
import KE.KIsAll
import HandS.ForMost
import HandS.ForExc
import HandS.Wide
import HandS.IsInst
import HandS.ExcIs
import HandS.Lambda
import HandS.EndTab
import HandS.HeadWalk
import HandS.Head2
import HandS.HeadHook4
import HandS.Steps
import HandS.More
import PySem.Challenge.RW_stackwood_k01_what_is_none
import HandS.SortInts
import HandS.Walk
import HandS.Text
import HandS.Iter
import HandS.RaiseMore
import HandS.TryMany
import HandS.HeadHook3
import KE.KDflt
import HandS.Nested
set_option Elab.async false
set_option linter.all false
set_option maxRecDepth 100000
set_option maxHeartbeats 2000000
section
/-! SwTxt of law_k01_what_is_none: the text by places, its scopes, what the top leaves. -/
namespace Sk
open PySem PySem.Spec PyProof.Rows L2
def topS (i : Nat) : Stmt := PySem.Challenge.pw_stackwood_k01_what_is_none.main.body.getD i (.Pass ⟨0, 0, 0, 0⟩)
abbrev s_Frame_init : Stmt := inClass (topS 12) 0
abbrev s_Wood_init : Stmt := inClass (topS 13) 0
abbrev s_Wood_need_hand : Stmt := inClass (topS 13) 1
abbrev s_Wood_need_place : Stmt := inClass (topS 13) 2
abbrev s_Wood_hands : Stmt := inClass (topS 13) 3
abbrev s_Wood_path : Stmt := inClass (topS 13) 4
abbrev s_Wood_new_room : Stmt := inClass (topS 13) 5
abbrev s_Wood_need_free : Stmt := inClass (topS 13) 6
abbrev s_Wood_want : Stmt := inClass (topS 13) 7
abbrev s_Wood_leave : Stmt := inClass (topS 13) 8
abbrev s_Wood_call : Stmt := inClass (topS 13) 9
abbrev s_Wood_back : Stmt := inClass (topS 13) 10
abbrev s_Wood_turn_to : Stmt := inClass (topS 13) 11
abbrev s_Wood_branch : Stmt := inClass (topS 13) 12
abbrev s_Wood_keep : Stmt := inClass (topS 13) 13
abbrev s_Wood_leap : Stmt := inClass (topS 13) 14
abbrev s_Wood_forget : Stmt := inClass (topS 13) 15
abbrev s_Wood_look : Stmt := inClass (topS 13) 16
abbrev s_Wood_glance : Stmt := inClass (topS 13) 17
abbrev s_Wood_way : Stmt := inClass (topS 13) 18
abbrev s_Wood_price : Stmt := inClass (topS 13) 19
abbrev s_Wood_put : Stmt := inClass (topS 13) 20
abbrev s_Wood_copied : Stmt := inClass (topS 13) 21
abbrev s_Wood_copies : Stmt := inClass (topS 13) 22
abbrev s_Wood_places : Stmt := inClass (topS 13) 23
abbrev s_Wood_calls : Stmt := inClass (topS 13) 24
abbrev s_number_of : Stmt := topS 18
abbrev s_deed_of : Stmt := topS 19
abbrev s_done : Stmt := topS 20
abbrev s_answer : Stmt := topS 21
abbrev s_played : Stmt := topS 22
abbrev s_least_rooms : Stmt := topS 23
abbrev s_rooms_of : Stmt := topS 25
abbrev s_top : Stmt := topS 26
abbrev s_held : Stmt := topS 27
abbrev s_common : Stmt := topS 28
abbrev s_alone : Stmt := topS 29
abbrev s_l_dice : Stmt := topS 31
abbrev s_l_next : Stmt := topS 32
abbrev s_l_like : Stmt := topS 33
abbrev s_l_number : Stmt := topS 34
abbrev s_l_deed : Stmt := topS 35
abbrev s_l_does : Stmt := topS 36
abbrev s_l_wood : Stmt := topS 37
abbrev s_l_pile : Stmt := topS 38
abbrev s_l_swept : Stmt := topS 39
abbrev s_l_needs : Stmt := topS 40
abbrev s_l_free : Stmt := topS 41
abbrev s_l_price : Stmt := topS 42
abbrev s_l_call : Stmt := topS 43
abbrev s_l_put : Stmt := topS 44
abbrev s_l_fault : Stmt := topS 45
abbrev s_l_due : Stmt := topS 46
abbrev s_l_deep : Stmt := topS 47
abbrev s_l_is_wood : Stmt := topS 48
abbrev s_l_told : Stmt := topS 49
abbrev s_l_works : Stmt := topS 50
abbrev s_l_counts : Stmt := topS 51
abbrev s_law : Stmt := topS 52
theorem sc_Frame_init : FnScope ["self", "below", "slots"] ["self", "below", "slots"] (defScope s_Frame_init) := ⟨rfl, rfl, rfl, by decide +kernel, rfl, by decide +kernel, by decide +kernel⟩
theorem sc_Wood_init : FnScope ["self", "hands", "rooms", "hand"] ["self", "hands", "rooms"] (defScope s_Wood_init) := ⟨rfl, rfl, rfl, by decide +kernel, rfl, by decide +kernel, by decide +kernel⟩
theorem sc_Wood_need_hand : FnScope ["self", "hand"] ["self", "hand"] (defScope s_Wood_need_hand) := ⟨rfl, rfl, rfl, by decide +kernel, rfl, by decide +kernel, by decide +kernel⟩
theorem sc_Wood_need_place : FnScope ["self", "place"] ["self", "place"] (defScope s_Wood_need_place) := ⟨rfl, rfl, rfl, by decide +kernel, rfl, by decide +kernel, by decide +kernel⟩
theorem sc_Wood_hands : FnScope ["self"] ["self"] (defScope s_Wood_hands) := ⟨rfl, rfl, rfl, by decide +kernel, rfl, by decide +kernel, by decide +kernel⟩
theorem sc_Wood_path : FnScope ["self", "room", "found"] ["self", "room"] (defScope s_Wood_path) := ⟨rfl, rfl, rfl, by decide +kernel, rfl, by decide +kernel, by decide +kernel⟩
theorem sc_Wood_new_room : FnScope ["self", "room"] ["self"] (defScope s_Wood_new_room) := ⟨rfl, rfl, rfl, by decide +kernel, rfl, by decide +kernel, by decide +kernel⟩
theorem sc_Wood_need_free : FnScope ["self", "many"] ["self", "many"] (defScope s_Wood_need_free) := ⟨rfl, rfl, rfl, by decide +kernel, rfl, by decide +kernel, by decide +kernel⟩
theorem sc_Wood_want : FnScope ["self", "room"] ["self", "room"] (defScope s_Wood_want) := ⟨rfl, rfl, rfl, by decide +kernel, rfl, by decide +kernel, by decide +kernel⟩
theorem sc_Wood_leave : FnScope ["self", "room", "frame"] ["self", "room"] (defScope s_Wood_leave) := ⟨rfl, rfl, rfl, by decide +kernel, rfl, by decide +kernel, by decide +kernel⟩
theorem sc_Wood_call : FnScope ["self", "hand", "values", "room"] ["self", "hand", "values"] (defScope s_Wood_call) := ⟨rfl, rfl, rfl, by decide +kernel, rfl, by decide +kernel, by decide +kernel⟩
theorem sc_Wood_back : FnScope ["self", "hand", "top", "values"] ["self", "hand"] (defScope s_Wood_back) := ⟨rfl, rfl, rfl, by decide +kernel, rfl, by decide +kernel, by decide +kernel⟩
theorem sc_Wood_turn_to : FnScope ["self", "hand", "room"] ["self", "hand", "room"] (defScope s_Wood_turn_to) := ⟨rfl, rfl, rfl, by decide +kernel, rfl, by decide +kernel, by decide +kernel⟩
theorem sc_Wood_branch : FnScope ["self", "hand", "other"] ["self", "hand", "other"] (defScope s_Wood_branch) := ⟨rfl, rfl, rfl, by decide +kernel, rfl, by decide +kernel, by decide +kernel⟩
theorem sc_Wood_keep : FnScope ["self", "hand"] ["self", "hand"] (defScope s_Wood_keep) := ⟨rfl, rfl, rfl, by decide +kernel, rfl, by decide +kernel, by decide +kernel⟩
theorem sc_Wood_leap : FnScope ["self", "hand", "place"] ["self", "hand", "place"] (defScope s_Wood_leap) := ⟨rfl, rfl, rfl, by decide +kernel, rfl, by decide +kernel, by decide +kernel⟩
theorem sc_Wood_forget : FnScope ["self", "place"] ["self", "place"] (defScope s_Wood_forget) := ⟨rfl, rfl, rfl, by decide +kernel, rfl, by decide +kernel, by decide +kernel⟩
theorem sc_Wood_look : FnScope ["self", "hand", "room"] ["self", "hand"] (defScope s_Wood_look) := ⟨rfl, rfl, rfl, by decide +kernel, rfl, by decide +kernel, by decide +kernel⟩
theorem sc_Wood_glance : FnScope ["self", "place", "room"] ["self", "place"] (defScope s_Wood_glance) := ⟨rfl, rfl, rfl, by decide +kernel, rfl, by decide +kernel, by decide +kernel⟩
theorem sc_Wood_way : FnScope ["self", "hand", "depth", "path", "shared", "at"] ["self", "hand", "depth"] (defScope s_Wood_way) := ⟨rfl, rfl, rfl, by decide +kernel, rfl, by decide +kernel, by decide +kernel⟩
theorem sc_Wood_price : FnScope ["self", "hand", "depth", "first"] ["self", "hand", "depth"] (defScope s_Wood_price) := ⟨rfl, rfl, rfl, by decide +kernel, rfl, by decide +kernel, by decide +kernel⟩
theorem sc_Wood_put : FnScope ["self", "hand", "depth", "slot", "value", "path", "first", "room"] ["self", "hand", "depth", "slot", "value"] (defScope s_Wood_put) := ⟨rfl, rfl, rfl, by decide +kernel, rfl, by decide +kernel, by decide +kernel⟩
theorem sc_Wood_copied : FnScope ["self", "hand", "path", "first", "below", "rooms", "old", "room"] ["self", "hand", "path", "first"] (defScope s_Wood_copied) := ⟨rfl, rfl, rfl, by decide +kernel, rfl, by decide +kernel, by decide +kernel⟩
theorem sc_Wood_copies : FnScope ["self"] ["self"] (defScope s_Wood_copies) := ⟨rfl, rfl, rfl, by decide +kernel, rfl, by decide +kernel, by decide +kernel⟩
theorem sc_Wood_places : FnScope ["self"] ["self"] (defScope s_Wood_places) := ⟨rfl, rfl, rfl, by decide +kernel, rfl, by decide +kernel, by decide +kernel⟩
theorem sc_Wood_calls : FnScope ["self", "found", "room", "frame"] ["self"] (defScope s_Wood_calls) := ⟨rfl, rfl, rfl, by decide +kernel, rfl, by decide +kernel, by decide +kernel⟩
theorem sc_number_of : FnScope ["word", "figures", "sign"] ["word"] (defScope s_number_of) := ⟨rfl, rfl, rfl, by decide +kernel, rfl, by decide +kernel, by decide +kernel⟩
theorem sc_deed_of : FnScope ["text", "words", "numbers", "word"] ["text"] (defScope s_deed_of) := ⟨rfl, rfl, rfl, by decide +kernel, rfl, by decide +kernel, by decide +kernel⟩
theorem sc_done : FnScope ["wood", "word", "numbers", "values", "value"] ["wood", "word", "numbers"] (defScope s_done) := ⟨rfl, rfl, rfl, by decide +kernel, rfl, by decide +kernel, by decide +kernel⟩
theorem sc_answer : FnScope ["wood", "text", "deed"] ["wood", "text"] (defScope s_answer) := ⟨rfl, rfl, rfl, by decide +kernel, rfl, by decide +kernel, by decide +kernel⟩
theorem sc_played : FnScope ["hands", "rooms", "book", "wood", "text"] ["hands", "rooms", "book"] (defScope s_played) := ⟨rfl, rfl, rfl, by decide +kernel, rfl, by decide +kernel, by decide +kernel⟩
theorem sc_least_rooms : FnScope ["hands", "book", "wood", "least", "text"] ["hands", "book"] (defScope s_least_rooms) := ⟨rfl, rfl, rfl, by decide +kernel, rfl, by decide +kernel, by decide +kernel⟩
theorem sc_rooms_of : FnScope ["wood", "room", "below", "found", "call"] ["wood", "room"] (defScope s_rooms_of) := ⟨rfl, rfl, rfl, by decide +kernel, rfl, by decide +kernel, by decide +kernel⟩
theorem sc_top : FnScope ["wood", "hand"] ["wood", "hand"] (defScope s_top) := ⟨rfl, rfl, rfl, by decide +kernel, rfl, by decide +kernel, by decide +kernel⟩
theorem sc_held : FnScope ["wood", "some", "found", "hand", "room"] ["wood", "some"] (defScope s_held) := ⟨rfl, rfl, rfl, by decide +kernel, rfl, by decide +kernel, by decide +kernel⟩
theorem sc_common : FnScope ["wood", "hand", "other", "mine", "theirs", "room"] ["wood", "hand", "other"] (defScope s_common) := ⟨rfl, rfl, rfl, by decide +kernel, rfl, by decide +kernel, by decide +kernel⟩
theorem sc_alone : FnScope ["wood", "hand", "needs", "many", "room", "call"] ["wood", "hand"] (defScope s_alone) := ⟨rfl, rfl, rfl, by decide +kernel, rfl, by decide +kernel, by decide +kernel⟩
theorem sc_l_dice : FnScope ["_law_script", "_law_mixed", "_law_cell"] ["_law_script"] (defScope s_l_dice) := ⟨rfl, rfl, rfl, by decide +kernel, rfl, by decide +kernel, by decide +kernel⟩
theorem sc_l_next : FnScope ["_law_dice_here", "_law_many", "_law_found", "_law_cell"] ["_law_dice_here", "_law_many"] (defScope s_l_next) := ⟨rfl, rfl, rfl, by decide +kernel, rfl, by decide +kernel, by decide +kernel⟩
theorem sc_l_like : FnScope ["_law_found", "_law_due_here", "_law_k", "_law_key"] ["_law_found", "_law_due_here"] (defScope s_l_like) := ⟨rfl, rfl, rfl, by decide +kernel, rfl, by decide +kernel, by decide +kernel⟩
theorem sc_l_number : FnScope ["_law_d"] ["_law_d"] (defScope s_l_number) := ⟨rfl, rfl, rfl, by decide +kernel, rfl, by decide +kernel, by decide +kernel⟩
theorem sc_l_deed : FnScope ["_law_d", "_law_sizes", "_law_hands", "_law_deep_here", "_law_places", "_law_hand", "_law_kind", "_law_k"] ["_law_d", "_law_sizes"] (defScope s_l_deed) := ⟨rfl, rfl, rfl, by decide +kernel, rfl, by decide +kernel, by decide +kernel⟩
theorem sc_l_does : FnScope ["_law_wood_here", "_law_deed_here"] ["_law_wood_here", "_law_deed_here"] (defScope s_l_does) := ⟨rfl, rfl, rfl, by decide +kernel, rfl, by decide +kernel, by decide +kernel⟩
theorem sc_l_wood : FnScope ["_law_hands", "_law_rooms"] ["_law_hands", "_law_rooms"] (defScope s_l_wood) := ⟨rfl, rfl, rfl, by decide +kernel, rfl, by decide +kernel, by decide +kernel⟩
theorem sc_l_pile : FnScope ["_law_w", "_law_room", "_law_found"] ["_law_w", "_law_room"] (defScope s_l_pile) := ⟨rfl, rfl, rfl, by decide +kernel, rfl, by decide +kernel, by decide +kernel⟩
theorem sc_l_swept : FnScope ["_law_w", "_law_some", "_law_room", "_law_place"] ["_law_w"] (defScope s_l_swept) := ⟨rfl, rfl, rfl, by decide +kernel, rfl, by decide +kernel, by decide +kernel⟩
theorem sc_l_needs : FnScope ["_law_w", "_law_room", "_law_some", "_law_place", "_law_one"] ["_law_w", "_law_room"] (defScope s_l_needs) := ⟨rfl, rfl, rfl, by decide +kernel, rfl, by decide +kernel, by decide +kernel⟩
theorem sc_l_free : FnScope ["_law_w", "_law_room"] ["_law_w"] (defScope s_l_free) := ⟨rfl, rfl, rfl, by decide +kernel, rfl, by decide +kernel, by decide +kernel⟩
theorem sc_l_price : FnScope ["_law_w", "_law_path", "_law_some", "_law_at"] ["_law_w", "_law_path"] (defScope s_l_price) := ⟨rfl, rfl, rfl, by decide +kernel, rfl, by decide +kernel, by decide +kernel⟩
theorem sc_l_call : FnScope ["_law_w", "_law_hand", "_law_values", "_law_room"] ["_law_w", "_law_hand", "_law_values"] (defScope s_l_call) := ⟨rfl, rfl, rfl, by decide +kernel, rfl, by decide +kernel, by decide +kernel⟩
theorem sc_l_put : FnScope ["_law_w", "_law_hand", "_law_depth", "_law_slot", "_law_value", "_law_pile_here", "_law_many", "_law_below", "_law_at", "_law_room"] ["_law_w", "_law_hand", "_law_depth", "_law_slot", "_law_value"] (defScope s_l_put) := ⟨rfl, rfl, rfl, by decide +kernel, rfl, by decide +kernel, by decide +kernel⟩
theorem sc_l_fault : FnScope ["_law_w", "_law_deed_here", "_law_some", "_law_one"] ["_law_w", "_law_deed_here"] (defScope s_l_fault) := ⟨rfl, rfl, rfl, by decide +kernel, rfl, by decide +kernel, by decide +kernel⟩
theorem sc_l_due : FnScope ["_law_w", "_law_deed_here", "_law_word", "_law_found", "_law_room"] ["_law_w", "_law_deed_here"] (defScope s_l_due) := ⟨rfl, rfl, rfl, by decide +kernel, rfl, by decide +kernel, by decide +kernel⟩
theorem sc_l_deep : FnScope ["_law_w", "_law_last"] ["_law_w"] (defScope s_l_deep) := ⟨rfl, rfl, rfl, by decide +kernel, rfl, by decide +kernel, by decide +kernel⟩
theorem sc_l_is_wood : FnScope ["_law_wood_here", "_law_w", "_law_due_here", "_law_room", "_law_piles", "_law_last", "_law_kept", "_law_place", "_law_hand"] ["_law_wood_here", "_law_w"] (defScope s_l_is_wood) := ⟨rfl, rfl, rfl, by decide +kernel, rfl, by decide +kernel, by decide +kernel⟩
theorem sc_l_told : FnScope ["_law_work", "e", "_law_kinds", "_law_words"] ["_law_work"] (defScope s_l_told) := ⟨rfl, rfl, rfl, by decide +kernel, rfl, by decide +kernel, by decide +kernel⟩
theorem sc_l_works : FnScope ["_law_wood_here", "_law_hand", "_law_other", "_law_works_here"] ["_law_wood_here", "_law_hand", "_law_other"] (defScope s_l_works) := ⟨rfl, rfl, rfl, by decide +kernel, rfl, by decide +kernel, by decide +kernel⟩
theorem sc_l_counts : FnScope ["_law_d", "_law_far", "_law_works_here", "_law_odd", "_law_work"] ["_law_d", "_law_far"] (defScope s_l_counts) := ⟨rfl, rfl, rfl, by decide +kernel, rfl, by decide +kernel, by decide +kernel⟩
theorem sc_law : FnScope ["_law_script", "_law_far", "_law_hands", "_law_w", "_law_turn", "_law_found", "_law_hand", "_law_deep_here", "_law_works_here", "_law_d", "_law_deed_here", "_law_depth", "_law_mine", "_law_place", "_law_slot", "_law_wood_here", "_law_work"] ["_law_script"] (defScope s_law) := ⟨rfl, rfl, rfl, by decide +kernel, rfl, by decide +kernel, by decide +kernel⟩
/-- the function object at f -/
def fdOf (K : PySem.W.Frag) (f : Addr) : FuncData := match K.lookup f with
  | some ⟨_, _, .func fd, _⟩ => fd
  | _ => PySem.W.fnOf "" "" (defArgs (topS 0)) [] (defScope (topS 0)) .none .none .none .none none .none .none
abbrev FnT (K : PySem.W.Frag) (p : Str × Option Str) (name qual : Str) (st : Stmt) : Prop := FunD K name qual (defArgs st) (defBody st) (defScope st) [] [] (He.fAd K p) (fdOf K (He.fAd K p))
def exN : List Str := ["BadWood", "NoHand", "NoPlace", "NoCall", "NoSlot", "NoRoom"]
structure Txt (K : PySem.W.Frag) (mg : Str → Option Value) : Prop where
  n_list : mg "list" = none
  i_MOST_HANDS : ∃ t, mg "MOST_HANDS" = some (.int 6 t)
  i_MOST_ROOMS : ∃ t, mg "MOST_ROOMS" = some (.int 40 t)
  g_BadWood : mg "BadWood" = some (.ref (He.ga K "BadWood"))
  n_range : mg "range" = none
  n_len : mg "len" = none
  g_NoHand : mg "NoHand" = some (.ref (He.ga K "NoHand"))
  g_NoPlace : mg "NoPlace" = some (.ref (He.ga K "NoPlace"))
  n_min : mg "min" = none
  g_NoRoom : mg "NoRoom" = some (.ref (He.ga K "NoRoom"))
  i_MOST_VALUES : ∃ t, mg "MOST_VALUES" = some (.int 3 t)
  g_NoSlot : mg "NoSlot" = some (.ref (He.ga K "NoSlot"))
  g_Frame : mg "Frame" = some (.ref (He.ga K "Frame"))
  g_NoCall : mg "NoCall" = some (.ref (He.ga K "NoCall"))
  n_reversed : mg "reversed" = none
  n_sorted : mg "sorted" = none
  i_MOST_FIGURES : ∃ t, mg "MOST_FIGURES" = some (.int 6 t)
  n_int : mg "int" = none
  g_COUNTS : mg "COUNTS" = some (.ref (He.ga K "COUNTS"))
  n_str : mg "str" = none
  g_deed_of : mg "deed_of" = some (.ref (He.ga K "deed_of"))
  g_done : mg "done" = some (.ref (He.ga K "done"))
  g_Wood : mg "Wood" = some (.ref (He.ga K "Wood"))
  g_answer : mg "answer" = some (.ref (He.ga K "answer"))
  n_max : mg "max" = none
  n_dict : mg "dict" = none
  g_rooms_of : mg "rooms_of" = some (.ref (He.ga K "rooms_of"))
  g_top : mg "top" = some (.ref (He.ga K "top"))
  n_isinstance : mg "isinstance" = none
  n_bool : mg "bool" = none
  n_tuple : mg "tuple" = none
  g__law_like : mg "_law_like" = some (.ref (He.ga K "_law_like"))
  g__law_next : mg "_law_next" = some (.ref (He.ga K "_law_next"))
  g__law_number : mg "_law_number" = some (.ref (He.ga K "_law_number"))
  g__law_pile : mg "_law_pile" = some (.ref (He.ga K "_law_pile"))
  g__law_free : mg "_law_free" = some (.ref (He.ga K "_law_free"))
  g__law_price : mg "_law_price" = some (.ref (He.ga K "_law_price"))
  g__law_fault : mg "_law_fault" = some (.ref (He.ga K "_law_fault"))
  g__law_call : mg "_law_call" = some (.ref (He.ga K "_law_call"))
  g__law_put : mg "_law_put" = some (.ref (He.ga K "_law_put"))
  g__law_swept : mg "_law_swept" = some (.ref (He.ga K "_law_swept"))
  g__law_needs : mg "_law_needs" = some (.ref (He.ga K "_law_needs"))
  g_WoodError : mg "WoodError" = some (.ref (He.ga K "WoodError"))
  n_ValueError : mg "ValueError" = none
  g__law_dice : mg "_law_dice" = some (.ref (He.ga K "_law_dice"))
  g__law_counts : mg "_law_counts" = some (.ref (He.ga K "_law_counts"))
  g__law_wood : mg "_law_wood" = some (.ref (He.ga K "_law_wood"))
  g__law_deed : mg "_law_deed" = some (.ref (He.ga K "_law_deed"))
  g__law_deep : mg "_law_deep" = some (.ref (He.ga K "_law_deep"))
  g__law_told : mg "_law_told" = some (.ref (He.ga K "_law_told"))
  g__law_due : mg "_law_due" = some (.ref (He.ga K "_law_due"))
  g__law_works : mg "_law_works" = some (.ref (He.ga K "_law_works"))
  g__law_is_wood : mg "_law_is_wood" = some (.ref (He.ga K "_law_is_wood"))
  c_FIGURES : ∃ t, mg "FIGURES" = some (.str "0123456789" t)
  g_number_of : mg "number_of" = some (.ref (He.ga K "number_of"))
  g_held : mg "held" = some (.ref (He.ga K "held"))
  g_common : mg "common" = some (.ref (He.ga K "common"))
  g_alone : mg "alone" = some (.ref (He.ga K "alone"))
  g_played : mg "played" = some (.ref (He.ga K "played"))
  g_least_rooms : mg "least_rooms" = some (.ref (He.ga K "least_rooms"))
  g__law_does : mg "_law_does" = some (.ref (He.ga K "_law_does"))
  g_law : mg "law" = some (.ref (He.ga K "law"))
  x_BadWood : PySem.W.excIn K (He.ga K "BadWood") He.veBase "ValueError.__new__" = true ∧ PySem.W.keepIn K (.ref (He.ga K "BadWood")) = true ∧ PySem.W.subIn K (.ref (He.ga K "BadWood")) (.type "BaseException") = some true ∧ PySem.W.typeIn K (.ref (He.ga K "BadWood")) = some (.type "type")
  xm_BadWood : PySem.W.exmOne K (.ref (He.ga K "BadWood")) (.ref (He.ga K "WoodError")) = some true
  x_NoHand : PySem.W.excIn K (He.ga K "NoHand") He.veBase "ValueError.__new__" = true ∧ PySem.W.keepIn K (.ref (He.ga K "NoHand")) = true ∧ PySem.W.subIn K (.ref (He.ga K "NoHand")) (.type "BaseException") = some true ∧ PySem.W.typeIn K (.ref (He.ga K "NoHand")) = some (.type "type")
  xm_NoHand : PySem.W.exmOne K (.ref (He.ga K "NoHand")) (.ref (He.ga K "WoodError")) = some true
  x_NoPlace : PySem.W.excIn K (He.ga K "NoPlace") He.veBase "ValueError.__new__" = true ∧ PySem.W.keepIn K (.ref (He.ga K "NoPlace")) = true ∧ PySem.W.subIn K (.ref (He.ga K "NoPlace")) (.type "BaseException") = some true ∧ PySem.W.typeIn K (.ref (He.ga K "NoPlace")) = some (.type "type")
  xm_NoPlace : PySem.W.exmOne K (.ref (He.ga K "NoPlace")) (.ref (He.ga K "WoodError")) = some true
  x_NoCall : PySem.W.excIn K (He.ga K "NoCall") He.veBase "ValueError.__new__" = true ∧ PySem.W.keepIn K (.ref (He.ga K "NoCall")) = true ∧ PySem.W.subIn K (.ref (He.ga K "NoCall")) (.type "BaseException") = some true ∧ PySem.W.typeIn K (.ref (He.ga K "NoCall")) = some (.type "type")
  xm_NoCall : PySem.W.exmOne K (.ref (He.ga K "NoCall")) (.ref (He.ga K "WoodError")) = some true
  x_NoSlot : PySem.W.excIn K (He.ga K "NoSlot") He.veBase "ValueError.__new__" = true ∧ PySem.W.keepIn K (.ref (He.ga K "NoSlot")) = true ∧ PySem.W.subIn K (.ref (He.ga K "NoSlot")) (.type "BaseException") = some true ∧ PySem.W.typeIn K (.ref (He.ga K "NoSlot")) = some (.type "type")
  xm_NoSlot : PySem.W.exmOne K (.ref (He.ga K "NoSlot")) (.ref (He.ga K "WoodError")) = some true
  x_NoRoom : PySem.W.excIn K (He.ga K "NoRoom") He.veBase "ValueError.__new__" = true ∧ PySem.W.keepIn K (.ref (He.ga K "NoRoom")) = true ∧ PySem.W.subIn K (.ref (He.ga K "NoRoom")) (.type "BaseException") = some true ∧ PySem.W.typeIn K (.ref (He.ga K "NoRoom")) = some (.type "type")
  xm_NoRoom : PySem.W.exmOne K (.ref (He.ga K "NoRoom")) (.ref (He.ga K "WoodError")) = some true
  cl_Frame : Cls K (He.ga K "Frame")
  mk_Frame : Mk K (He.ga K "Frame") (He.ma K (He.ga K "Frame") "__init__")
  a_below : NoAttr K (He.ga K "Frame") "below"
  a_slots : NoAttr K (He.ga K "Frame") "slots"
  a_needs : NoAttr K (He.ga K "Frame") "needs"
  cl_Wood : Cls K (He.ga K "Wood")
  mk_Wood : Mk K (He.ga K "Wood") (He.ma K (He.ga K "Wood") "__init__")
  a_rooms : NoAttr K (He.ga K "Wood") "rooms"
  a_frames : NoAttr K (He.ga K "Wood") "frames"
  a_tops : NoAttr K (He.ga K "Wood") "tops"
  a_marks : NoAttr K (He.ga K "Wood") "marks"
  a_many : NoAttr K (He.ga K "Wood") "many"
  a_made : NoAttr K (He.ga K "Wood") "made"
  m_need_hand : Meth K (He.ga K "Wood") "need_hand" (He.ma K (He.ga K "Wood") "need_hand")
  m_need_place : Meth K (He.ga K "Wood") "need_place" (He.ma K (He.ga K "Wood") "need_place")
  m_hands : Meth K (He.ga K "Wood") "hands" (He.ma K (He.ga K "Wood") "hands")
  m_path : Meth K (He.ga K "Wood") "path" (He.ma K (He.ga K "Wood") "path")
  m_new_room : Meth K (He.ga K "Wood") "new_room" (He.ma K (He.ga K "Wood") "new_room")
  m_need_free : Meth K (He.ga K "Wood") "need_free" (He.ma K (He.ga K "Wood") "need_free")
  m_want : Meth K (He.ga K "Wood") "want" (He.ma K (He.ga K "Wood") "want")
  m_leave : Meth K (He.ga K "Wood") "leave" (He.ma K (He.ga K "Wood") "leave")
  m_call : Meth K (He.ga K "Wood") "call" (He.ma K (He.ga K "Wood") "call")
  m_back : Meth K (He.ga K "Wood") "back" (He.ma K (He.ga K "Wood") "back")
  m_turn_to : Meth K (He.ga K "Wood") "turn_to" (He.ma K (He.ga K "Wood") "turn_to")
  m_branch : Meth K (He.ga K "Wood") "branch" (He.ma K (He.ga K "Wood") "branch")
  m_keep : Meth K (He.ga K "Wood") "keep" (He.ma K (He.ga K "Wood") "keep")
  m_leap : Meth K (He.ga K "Wood") "leap" (He.ma K (He.ga K "Wood") "leap")
  m_forget : Meth K (He.ga K "Wood") "forget" (He.ma K (He.ga K "Wood") "forget")
  m_look : Meth K (He.ga K "Wood") "look" (He.ma K (He.ga K "Wood") "look")
  m_glance : Meth K (He.ga K "Wood") "glance" (He.ma K (He.ga K "Wood") "glance")
  m_way : Meth K (He.ga K "Wood") "way" (He.ma K (He.ga K "Wood") "way")
  m_price : Meth K (He.ga K "Wood") "price" (He.ma K (He.ga K "Wood") "price")
  m_put : Meth K (He.ga K "Wood") "put" (He.ma K (He.ga K "Wood") "put")
  m_copied : Meth K (He.ga K "Wood") "copied" (He.ma K (He.ga K "Wood") "copied")
  m_copies : Meth K (He.ga K "Wood") "copies" (He.ma K (He.ga K "Wood") "copies")
  m_places : Meth K (He.ga K "Wood") "places" (He.ma K (He.ga K "Wood") "places")
  m_calls : Meth K (He.ga K "Wood") "calls" (He.ma K (He.ga K "Wood") "calls")
  F_Frame_init : FnT K ("Frame", some "__init__") "__init__" "Frame.__init__" s_Frame_init
  F_Wood_init : FnT K ("Wood", some "__init__") "__init__" "Wood.__init__" s_Wood_init
  F_Wood_need_hand : FnT K ("Wood", some "need_hand") "need_hand" "Wood.need_hand" s_Wood_need_hand
  F_Wood_need_place : FnT K ("Wood", some "need_place") "need_place" "Wood.need_place" s_Wood_need_place
  F_Wood_hands : FnT K ("Wood", some "hands") "hands" "Wood.hands" s_Wood_hands
  F_Wood_path : FnT K ("Wood", some "path") "path" "Wood.path" s_Wood_path
  F_Wood_new_room : FnT K ("Wood", some "new_room") "new_room" "Wood.new_room" s_Wood_new_room
  F_Wood_need_free : FnT K ("Wood", some "need_free") "need_free" "Wood.need_free" s_Wood_need_free
  F_Wood_want : FnT K ("Wood", some "want") "want" "Wood.want" s_Wood_want
  F_Wood_leave : FnT K ("Wood", some "leave") "leave" "Wood.leave" s_Wood_leave
  F_Wood_call : FnT K ("Wood", some "call") "call" "Wood.call" s_Wood_call
  F_Wood_back : FnT K ("Wood", some "back") "back" "Wood.back" s_Wood_back
  F_Wood_turn_to : FnT K ("Wood", some "turn_to") "turn_to" "Wood.turn_to" s_Wood_turn_to
  F_Wood_branch : FnT K ("Wood", some "branch") "branch" "Wood.branch" s_Wood_branch
  F_Wood_keep : FnT K ("Wood", some "keep") "keep" "Wood.keep" s_Wood_keep
  F_Wood_leap : FnT K ("Wood", some "leap") "leap" "Wood.leap" s_Wood_leap
  F_Wood_forget : FnT K ("Wood", some "forget") "forget" "Wood.forget" s_Wood_forget
  F_Wood_look : FnT K ("Wood", some "look") "look" "Wood.look" s_Wood_look
  F_Wood_glance : FnT K ("Wood", some "glance") "glance" "Wood.glance" s_Wood_glance
  F_Wood_way : FnT K ("Wood", some "way") "way" "Wood.way" s_Wood_way
  F_Wood_price : FnT K ("Wood", some "price") "price" "Wood.price" s_Wood_price
  F_Wood_put : FnT K ("Wood", some "put") "put" "Wood.put" s_Wood_put
  F_Wood_copied : FnT K ("Wood", some "copied") "copied" "Wood.copied" s_Wood_copied
  F_Wood_copies : FnT K ("Wood", some "copies") "copies" "Wood.copies" s_Wood_copies
  F_Wood_places : FnT K ("Wood", some "places") "places" "Wood.places" s_Wood_places
  F_Wood_calls : FnT K ("Wood", some "calls") "calls" "Wood.calls" s_Wood_calls
  F_number_of : FnT K ("number_of", none) "number_of" "number_of" s_number_of
  F_deed_of : FnT K ("deed_of", none) "deed_of" "deed_of" s_deed_of
  F_done : FnT K ("done", none) "done" "done" s_done
  F_answer : FnT K ("answer", none) "answer" "answer" s_answer
  F_played : FnT K ("played", none) "played" "played" s_played
  F_least_rooms : FnT K ("least_rooms", none) "least_rooms" "least_rooms" s_least_rooms
  F_rooms_of : FnT K ("rooms_of", none) "rooms_of" "rooms_of" s_rooms_of
  F_top : FnT K ("top", none) "top" "top" s_top
  F_held : FnT K ("held", none) "held" "held" s_held
  F_common : FnT K ("common", none) "common" "common" s_common
  F_alone : FnT K ("alone", none) "alone" "alone" s_alone
  F_l_dice : FnT K ("_law_dice", none) "_law_dice" "_law_dice" s_l_dice
  F_l_next : FnT K ("_law_next", none) "_law_next" "_law_next" s_l_next
  F_l_like : FnT K ("_law_like", none) "_law_like" "_law_like" s_l_like
  F_l_number : FnT K ("_law_number", none) "_law_number" "_law_number" s_l_number
  F_l_deed : FnT K ("_law_deed", none) "_law_deed" "_law_deed" s_l_deed
  F_l_does : FnT K ("_law_does", none) "_law_does" "_law_does" s_l_does
  F_l_wood : FnT K ("_law_wood", none) "_law_wood" "_law_wood" s_l_wood
  F_l_pile : FnT K ("_law_pile", none) "_law_pile" "_law_pile" s_l_pile
  F_l_swept : FnT K ("_law_swept", none) "_law_swept" "_law_swept" s_l_swept
  F_l_needs : FnT K ("_law_needs", none) "_law_needs" "_law_needs" s_l_needs
  F_l_free : FnT K ("_law_free", none) "_law_free" "_law_free" s_l_free
  F_l_price : FnT K ("_law_price", none) "_law_price" "_law_price" s_l_price
  F_l_call : FnT K ("_law_call", none) "_law_call" "_law_call" s_l_call
  F_l_put : FnT K ("_law_put", none) "_law_put" "_law_put" s_l_put
  F_l_fault : FnT K ("_law_fault", none) "_law_fault" "_law_fault" s_l_fault
  F_l_due : FnT K ("_law_due", none) "_law_due" "_law_due" s_l_due
  F_l_deep : FnT K ("_law_deep", none) "_law_deep" "_law_deep" s_l_deep
  F_l_is_wood : FnT K ("_law_is_wood", none) "_law_is_wood" "_law_is_wood" s_l_is_wood
  F_l_told : FnT K ("_law_told", none) "_law_told" "_law_told" s_l_told
  F_l_works : FnT K ("_law_works", none) "_law_works" "_law_works" s_l_works
  F_l_counts : FnT K ("_law_counts", none) "_law_counts" "_law_counts" s_l_counts
  F_law : FnT K ("law", none) "law" "law" s_law
  exC : ∀ x ∈ exN, ExcC K (He.ga K x)
  exV : ∀ x ∈ exN, PySem.W.kitOne K (.ref (He.ga K x)) (.type "ValueError") = some true
  exX : ∀ x ∈ exN, ∀ y ∈ exN, PySem.W.kitOne K (.ref (He.ga K x)) (.ref (He.ga K y)) = some (decide (x = y))
  exM : ∀ x ∈ exN, ∀ y ∈ exN, PySem.W.exmOne K (.ref (He.ga K x)) (.ref (He.ga K y)) = some (decide (x = y))
def cntK : List Str := ["back", "put", "branch", "keep", "leap", "forget"]
def tnB (K : PySem.W.Frag) : Bool := decide ((He.cT K ("_law_counts", none)).2 ≠ (He.cT K ("_law_works", none)).2) && decide ((He.cT K ("_law_counts", none)).2 ≠ (He.cT K ("law", none)).2) && decide ((He.cT K ("_law_works", none)).2 ≠ (He.cT K ("law", none)).2)
structure TxtB (K : PySem.W.Frag) (w : World) : Prop where
  dic : He.dicW K (He.ga K "COUNTS") = some (He.keysIn w.params cntK)
  vals : He.valsB K (He.ga K "COUNTS") [("back", .int 1), ("put", .int 4), ("branch", .int 2), ("keep", .int 1), ("leap", .int 2), ("forget", .int 1)] = true
  wC : PySem.W.findIn K (.ref (He.ga K "Wood")) "__class__" = some (some (.builtin "object.__class__"))
  wM : PySem.W.mroIn K (He.ga K "Wood") (.type "object") = some true
  tn : tnB K = true
def vkB (K : PySem.W.Frag) : Bool := He.valsB K (He.ga K "COUNTS") [("back", .int 1), ("put", .int 4), ("branch", .int 2), ("keep", .int 1), ("leap", .int 2), ("forget", .int 1)] && (decide (PySem.W.findIn K (.ref (He.ga K "Wood")) "__class__" = some (some (.builtin "object.__class__"))) && (decide (PySem.W.mroIn K (He.ga K "Wood") (.type "object") = some true) && tnB K))
variable {K : PySem.W.Frag} {mg : Str → Option Value}
theorem Txt.b_Frame_init (T : Txt K mg) : Binds K (fdOf K (He.fAd K ("Frame", some "__init__"))) ["self", "below", "slots"] [] := T.F_Frame_init.bindsN fun _ _ _ _ _ _ us hl => match us, hl with | [_, _, _], _ => rfl
theorem Txt.b_Wood_init (T : Txt K mg) : Binds K (fdOf K (He.fAd K ("Wood", some "__init__"))) ["self", "hands", "rooms"] [] := T.F_Wood_init.bindsN fun _ _ _ _ _ _ us hl => match us, hl with | [_, _, _], _ => rfl
theorem Txt.b_Wood_need_hand (T : Txt K mg) : Binds K (fdOf K (He.fAd K ("Wood", some "need_hand"))) ["self", "hand"] [] := T.F_Wood_need_hand.bindsN fun _ _ _ _ _ _ us hl => match us, hl with | [_, _], _ => rfl
theorem Txt.b_Wood_need_place (T : Txt K mg) : Binds K (fdOf K (He.fAd K ("Wood", some "need_place"))) ["self", "place"] [] := T.F_Wood_need_place.bindsN fun _ _ _ _ _ _ us hl => match us, hl with | [_, _], _ => rfl
theorem Txt.b_Wood_hands (T : Txt K mg) : Binds K (fdOf K (He.fAd K ("Wood", some "hands"))) ["self"] [] := T.F_Wood_hands.bindsN fun _ _ _ _ _ _ us hl => match us, hl with | [_], _ => rfl
theorem Txt.b_Wood_path (T : Txt K mg) : Binds K (fdOf K (He.fAd K ("Wood", some "path"))) ["self", "room"] [] := T.F_Wood_path.bindsN fun _ _ _ _ _ _ us hl => match us, hl with | [_, _], _ => rfl
theorem Txt.b_Wood_new_room (T : Txt K mg) : Binds K (fdOf K (He.fAd K ("Wood", some "new_room"))) ["self"] [] := T.F_Wood_new_room.bindsN fun _ _ _ _ _ _ us hl => match us, hl with | [_], _ => rfl
theorem Txt.b_Wood_need_free (T : Txt K mg) : Binds K (fdOf K (He.fAd K ("Wood", some "need_free"))) ["self", "many"] [] := T.F_Wood_need_free.bindsN fun _ _ _ _ _ _ us hl => match us, hl with | [_, _], _ => rfl
theorem Txt.b_Wood_want (T : Txt K mg) : Binds K (fdOf K (He.fAd K ("Wood", some "want"))) ["self", "room"] [] := T.F_Wood_want.bindsN fun _ _ _ _ _ _ us hl => match us, hl with | [_, _], _ => rfl
theorem Txt.b_Wood_leave (T : Txt K mg) : Binds K (fdOf K (He.fAd K ("Wood", some "leave"))) ["self", "room"] [] := T.F_Wood_leave.bindsN fun _ _ _ _ _ _ us hl => match us, hl with | [_, _], _ => rfl
theorem Txt.b_Wood_call (T : Txt K mg) : Binds K (fdOf K (He.fAd K ("Wood", some "call"))) ["self", "hand", "values"] [] := T.F_Wood_call.bindsN fun _ _ _ _ _ _ us hl => match us, hl with | [_, _, _], _ => rfl
theorem Txt.b_Wood_back (T : Txt K mg) : Binds K (fdOf K (He.fAd K ("Wood", some "back"))) ["self", "hand"] [] := T.F_Wood_back.bindsN fun _ _ _ _ _ _ us hl => match us, hl with | [_, _], _ => rfl
theorem Txt.b_Wood_turn_to (T : Txt K mg) : Binds K (fdOf K (He.fAd K ("Wood", some "turn_to"))) ["self", "hand", "room"] [] := T.F_Wood_turn_to.bindsN fun _ _ _ _ _ _ us hl => match us, hl with | [_, _, _], _ => rfl
theorem Txt.b_Wood_branch (T : Txt K mg) : Binds K (fdOf K (He.fAd K ("Wood", some "branch"))) ["self", "hand", "other"] [] := T.F_Wood_branch.bindsN fun _ _ _ _ _ _ us hl => match us, hl with | [_, _, _], _ => rfl
theorem Txt.b_Wood_keep (T : Txt K mg) : Binds K (fdOf K (He.fAd K ("Wood", some "keep"))) ["self", "hand"] [] := T.F_Wood_keep.bindsN fun _ _ _ _ _ _ us hl => match us, hl with | [_, _], _ => rfl
theorem Txt.b_Wood_leap (T : Txt K mg) : Binds K (fdOf K (He.fAd K ("Wood", some "leap"))) ["self", "hand", "place"] [] := T.F_Wood_leap.bindsN fun _ _ _ _ _ _ us hl => match us, hl with | [_, _, _], _ => rfl
theorem Txt.b_Wood_forget (T : Txt K mg) : Binds K (fdOf K (He.fAd K ("Wood", some "forget"))) ["self", "place"] [] := T.F_Wood_forget.bindsN fun _ _ _ _ _ _ us hl => match us, hl with | [_, _], _ => rfl
theorem Txt.b_Wood_look (T : Txt K mg) : Binds K (fdOf K (He.fAd K ("Wood", some "look"))) ["self", "hand"] [] := T.F_Wood_look.bindsN fun _ _ _ _ _ _ us hl => match us, hl with | [_, _], _ => rfl
theorem Txt.b_Wood_glance (T : Txt K mg) : Binds K (fdOf K (He.fAd K ("Wood", some "glance"))) ["self", "place"] [] := T.F_Wood_glance.bindsN fun _ _ _ _ _ _ us hl => match us, hl with | [_, _], _ => rfl
theorem Txt.b_Wood_way (T : Txt K mg) : Binds K (fdOf K (He.fAd K ("Wood", some "way"))) ["self", "hand", "depth"] [] := T.F_Wood_way.bindsN fun _ _ _ _ _ _ us hl => match us, hl with | [_, _, _], _ => rfl
theorem Txt.b_Wood_price (T : Txt K mg) : Binds K (fdOf K (He.fAd K ("Wood", some "price"))) ["self", "hand", "depth"] [] := T.F_Wood_price.bindsN fun _ _ _ _ _ _ us hl => match us, hl with | [_, _, _], _ => rfl
theorem Txt.b_Wood_put (T : Txt K mg) : Binds K (fdOf K (He.fAd K ("Wood", some "put"))) ["self", "hand", "depth", "slot", "value"] [] := T.F_Wood_put.bindsN fun _ _ _ _ _ _ us hl => match us, hl with | [_, _, _, _, _], _ => rfl
theorem Txt.b_Wood_copied (T : Txt K mg) : Binds K (fdOf K (He.fAd K ("Wood", some "copied"))) ["self", "hand", "path", "first"] [] := T.F_Wood_copied.bindsN fun _ _ _ _ _ _ us hl => match us, hl with | [_, _, _, _], _ => rfl
theorem Txt.b_Wood_copies (T : Txt K mg) : Binds K (fdOf K (He.fAd K ("Wood", some "copies"))) ["self"] [] := T.F_Wood_copies.bindsN fun _ _ _ _ _ _ us hl => match us, hl with | [_], _ => rfl
theorem Txt.b_Wood_places (T : Txt K mg) : Binds K (fdOf K (He.fAd K ("Wood", some "places"))) ["self"] [] := T.F_Wood_places.bindsN fun _ _ _ _ _ _ us hl => match us, hl with | [_], _ => rfl
theorem Txt.b_Wood_calls (T : Txt K mg) : Binds K (fdOf K (He.fAd K ("Wood", some "calls"))) ["self"] [] := T.F_Wood_calls.bindsN fun _ _ _ _ _ _ us hl => match us, hl with | [_], _ => rfl
theorem Txt.b_number_of (T : Txt K mg) : Binds K (fdOf K (He.fAd K ("number_of", none))) ["word"] [] := T.F_number_of.bindsN fun _ _ _ _ _ _ us hl => match us, hl with | [_], _ => rfl
theorem Txt.b_deed_of (T : Txt K mg) : Binds K (fdOf K (He.fAd K ("deed_of", none))) ["text"] [] := T.F_deed_of.bindsN fun _ _ _ _ _ _ us hl => match us, hl with | [_], _ => rfl
theorem Txt.b_done (T : Txt K mg) : Binds K (fdOf K (He.fAd K ("done", none))) ["wood", "word", "numbers"] [] := T.F_done.bindsN fun _ _ _ _ _ _ us hl => match us, hl with | [_, _, _], _ => rfl
theorem Txt.b_answer (T : Txt K mg) : Binds K (fdOf K (He.fAd K ("answer", none))) ["wood", "text"] [] := T.F_answer.bindsN fun _ _ _ _ _ _ us hl => match us, hl with | [_, _], _ => rfl
theorem Txt.b_played (T : Txt K mg) : Binds K (fdOf K (He.fAd K ("played", none))) ["hands", "rooms", "book"] [] := T.F_played.bindsN fun _ _ _ _ _ _ us hl => match us, hl with | [_, _, _], _ => rfl
theorem Txt.b_least_rooms (T : Txt K mg) : Binds K (fdOf K (He.fAd K ("least_rooms", none))) ["hands", "book"] [] := T.F_least_rooms.bindsN fun _ _ _ _ _ _ us hl => match us, hl with | [_, _], _ => rfl
theorem Txt.b_rooms_of (T : Txt K mg) : Binds K (fdOf K (He.fAd K ("rooms_of", none))) ["wood", "room"] [] := T.F_rooms_of.bindsN fun _ _ _ _ _ _ us hl => match us, hl with | [_, _], _ => rfl
theorem Txt.b_top (T : Txt K mg) : Binds K (fdOf K (He.fAd K ("top", none))) ["wood", "hand"] [] := T.F_top.bindsN fun _ _ _ _ _ _ us hl => match us, hl with | [_, _], _ => rfl
theorem Txt.b_held (T : Txt K mg) : Binds K (fdOf K (He.fAd K ("held", none))) ["wood", "some"] [] := T.F_held.bindsN fun _ _ _ _ _ _ us hl => match us, hl with | [_, _], _ => rfl
theorem Txt.b_common (T : Txt K mg) : Binds K (fdOf K (He.fAd K ("common", none))) ["wood", "hand", "other"] [] := T.F_common.bindsN fun _ _ _ _ _ _ us hl => match us, hl with | [_, _, _], _ => rfl
theorem Txt.b_alone (T : Txt K mg) : Binds K (fdOf K (He.fAd K ("alone", none))) ["wood", "hand"] [] := T.F_alone.bindsN fun _ _ _ _ _ _ us hl => match us, hl with | [_, _], _ => rfl
theorem Txt.b_l_dice (T : Txt K mg) : Binds K (fdOf K (He.fAd K ("_law_dice", none))) ["_law_script"] [] := T.F_l_dice.bindsN fun _ _ _ _ _ _ us hl => match us, hl with | [_], _ => rfl
theorem Txt.b_l_next (T : Txt K mg) : Binds K (fdOf K (He.fAd K ("_law_next", none))) ["_law_dice_here", "_law_many"] [] := T.F_l_next.bindsN fun _ _ _ _ _ _ us hl => match us, hl with | [_, _], _ => rfl
theorem Txt.b_l_like (T : Txt K mg) : Binds K (fdOf K (He.fAd K ("_law_like", none))) ["_law_found", "_law_due_here"] [] := T.F_l_like.bindsN fun _ _ _ _ _ _ us hl => match us, hl with | [_, _], _ => rfl
theorem Txt.b_l_number (T : Txt K mg) : Binds K (fdOf K (He.fAd K ("_law_number", none))) ["_law_d"] [] := T.F_l_number.bindsN fun _ _ _ _ _ _ us hl => match us, hl with | [_], _ => rfl
theorem Txt.b_l_deed (T : Txt K mg) : Binds K (fdOf K (He.fAd K ("_law_deed", none))) ["_law_d", "_law_sizes"] [] := T.F_l_deed.bindsN fun _ _ _ _ _ _ us hl => match us, hl with | [_, _], _ => rfl
theorem Txt.b_l_does (T : Txt K mg) : Binds K (fdOf K (He.fAd K ("_law_does", none))) ["_law_wood_here", "_law_deed_here"] [] := T.F_l_does.bindsN fun _ _ _ _ _ _ us hl => match us, hl with | [_, _], _ => rfl
theorem Txt.b_l_wood (T : Txt K mg) : Binds K (fdOf K (He.fAd K ("_law_wood", none))) ["_law_hands", "_law_rooms"] [] := T.F_l_wood.bindsN fun _ _ _ _ _ _ us hl => match us, hl with | [_, _], _ => rfl
theorem Txt.b_l_pile (T : Txt K mg) : Binds K (fdOf K (He.fAd K ("_law_pile", none))) ["_law_w", "_law_room"] [] := T.F_l_pile.bindsN fun _ _ _ _ _ _ us hl => match us, hl with | [_, _], _ => rfl
theorem Txt.b_l_swept (T : Txt K mg) : Binds K (fdOf K (He.fAd K ("_law_swept", none))) ["_law_w"] [] := T.F_l_swept.bindsN fun _ _ _ _ _ _ us hl => match us, hl with | [_], _ => rfl
theorem Txt.b_l_needs (T : Txt K mg) : Binds K (fdOf K (He.fAd K ("_law_needs", none))) ["_law_w", "_law_room"] [] := T.F_l_needs.bindsN fun _ _ _ _ _ _ us hl => match us, hl with | [_, _], _ => rfl
theorem Txt.b_l_free (T : Txt K mg) : Binds K (fdOf K (He.fAd K ("_law_free", none))) ["_law_w"] [] := T.F_l_free.bindsN fun _ _ _ _ _ _ us hl => match us, hl with | [_], _ => rfl
theorem Txt.b_l_price (T : Txt K mg) : Binds K (fdOf K (He.fAd K ("_law_price", none))) ["_law_w", "_law_path"] [] := T.F_l_price.bindsN fun _ _ _ _ _ _ us hl => match us, hl with | [_, _], _ => rfl
theorem Txt.b_l_call (T : Txt K mg) : Binds K (fdOf K (He.fAd K ("_law_call", none))) ["_law_w", "_law_hand", "_law_values"] [] := T.F_l_call.bindsN fun _ _ _ _ _ _ us hl => match us, hl with | [_, _, _], _ => rfl
theorem Txt.b_l_put (T : Txt K mg) : Binds K (fdOf K (He.fAd K ("_law_put", none))) ["_law_w", "_law_hand", "_law_depth", "_law_slot", "_law_value"] [] := T.F_l_put.bindsN fun _ _ _ _ _ _ us hl => match us, hl with | [_, _, _, _, _], _ => rfl
theorem Txt.b_l_fault (T : Txt K mg) : Binds K (fdOf K (He.fAd K ("_law_fault", none))) ["_law_w", "_law_deed_here"] [] := T.F_l_fault.bindsN fun _ _ _ _ _ _ us hl => match us, hl with | [_, _], _ => rfl
theorem Txt.b_l_due (T : Txt K mg) : Binds K (fdOf K (He.fAd K ("_law_due", none))) ["_law_w", "_law_deed_here"] [] := T.F_l_due.bindsN fun _ _ _ _ _ _ us hl => match us, hl with | [_, _], _ => rfl
theorem Txt.b_l_deep (T : Txt K mg) : Binds K (fdOf K (He.fAd K ("_law_deep", none))) ["_law_w"] [] := T.F_l_deep.bindsN fun _ _ _ _ _ _ us hl => match us, hl with | [_], _ => rfl
theorem Txt.b_l_is_wood (T : Txt K mg) : Binds K (fdOf K (He.fAd K ("_law_is_wood", none))) ["_law_wood_here", "_law_w"] [] := T.F_l_is_wood.bindsN fun _ _ _ _ _ _ us hl => match us, hl with | [_, _], _ => rfl
theorem Txt.b_l_told (T : Txt K mg) : Binds K (fdOf K (He.fAd K ("_law_told", none))) ["_law_work"] [] := T.F_l_told.bindsN fun _ _ _ _ _ _ us hl => match us, hl with | [_], _ => rfl
theorem Txt.b_l_works (T : Txt K mg) : Binds K (fdOf K (He.fAd K ("_law_works", none))) ["_law_wood_here", "_law_hand", "_law_other"] [] := T.F_l_works.bindsN fun _ _ _ _ _ _ us hl => match us, hl with | [_, _, _], _ => rfl
theorem Txt.b_l_counts (T : Txt K mg) : Binds K (fdOf K (He.fAd K ("_law_counts", none))) ["_law_d", "_law_far"] [] := T.F_l_counts.bindsN fun _ _ _ _ _ _ us hl => match us, hl with | [_, _], _ => rfl
theorem Txt.b_law (T : Txt K mg) : Binds K (fdOf K (He.fAd K ("law", none))) ["_law_script"] [] := T.F_law.bindsN fun _ _ _ _ _ _ us hl => match us, hl with | [_], _ => rfl
end Sk
end
section
/-! SwHead of law_k01_what_is_none: the run of the top, by facts. -/
namespace Sk
open PySem PySem.Spec PyProof.Rows L2
def d_Frame_init : He.DefD := ⟨("Frame", some "__init__"), "__init__", "Frame.__init__", defArgs s_Frame_init, defBody s_Frame_init, defScope s_Frame_init, [], []⟩
def d_Wood_init : He.DefD := ⟨("Wood", some "__init__"), "__init__", "Wood.__init__", defArgs s_Wood_init, defBody s_Wood_init, defScope s_Wood_init, [], []⟩
def d_Wood_need_hand : He.DefD := ⟨("Wood", some "need_hand"), "need_hand", "Wood.need_hand", defArgs s_Wood_need_hand, defBody s_Wood_need_hand, defScope s_Wood_need_hand, [], []⟩
def d_Wood_need_place : He.DefD := ⟨("Wood", some "need_place"), "need_place", "Wood.need_place", defArgs s_Wood_need_place, defBody s_Wood_need_place, defScope s_Wood_need_place, [], []⟩
def d_Wood_hands : He.DefD := ⟨("Wood", some "hands"), "hands", "Wood.hands", defArgs s_Wood_hands, defBody s_Wood_hands, defScope s_Wood_hands, [], []⟩
def d_Wood_path : He.DefD := ⟨("Wood", some "path"), "path", "Wood.path", defArgs s_Wood_path, defBody s_Wood_path, defScope s_Wood_path, [], []⟩
def d_Wood_new_room : He.DefD := ⟨("Wood", some "new_room"), "new_room", "Wood.new_room", defArgs s_Wood_new_room, defBody s_Wood_new_room, defScope s_Wood_new_room, [], []⟩
def d_Wood_need_free : He.DefD := ⟨("Wood", some "need_free"), "need_free", "Wood.need_free", defArgs s_Wood_need_free, defBody s_Wood_need_free, defScope s_Wood_need_free, [], []⟩
def d_Wood_want : He.DefD := ⟨("Wood", some "want"), "want", "Wood.want", defArgs s_Wood_want, defBody s_Wood_want, defScope s_Wood_want, [], []⟩
def d_Wood_leave : He.DefD := ⟨("Wood", some "leave"), "leave", "Wood.leave", defArgs s_Wood_leave, defBody s_Wood_leave, defScope s_Wood_leave, [], []⟩
def d_Wood_call : He.DefD := ⟨("Wood", some "call"), "call", "Wood.call", defArgs s_Wood_call, defBody s_Wood_call, defScope s_Wood_call, [], []⟩
def d_Wood_back : He.DefD := ⟨("Wood", some "back"), "back", "Wood.back", defArgs s_Wood_back, defBody s_Wood_back, defScope s_Wood_back, [], []⟩
def d_Wood_turn_to : He.DefD := ⟨("Wood", some "turn_to"), "turn_to", "Wood.turn_to", defArgs s_Wood_turn_to, defBody s_Wood_turn_to, defScope s_Wood_turn_to, [], []⟩
def d_Wood_branch : He.DefD := ⟨("Wood", some "branch"), "branch", "Wood.branch", defArgs s_Wood_branch, defBody s_Wood_branch, defScope s_Wood_branch, [], []⟩
def d_Wood_keep : He.DefD := ⟨("Wood", some "keep"), "keep", "Wood.keep", defArgs s_Wood_keep, defBody s_Wood_keep, defScope s_Wood_keep, [], []⟩
def d_Wood_leap : He.DefD := ⟨("Wood", some "leap"), "leap", "Wood.leap", defArgs s_Wood_leap, defBody s_Wood_leap, defScope s_Wood_leap, [], []⟩
def d_Wood_forget : He.DefD := ⟨("Wood", some "forget"), "forget", "Wood.forget", defArgs s_Wood_forget, defBody s_Wood_forget, defScope s_Wood_forget, [], []⟩
def d_Wood_look : He.DefD := ⟨("Wood", some "look"), "look", "Wood.look", defArgs s_Wood_look, defBody s_Wood_look, defScope s_Wood_look, [], []⟩
def d_Wood_glance : He.DefD := ⟨("Wood", some "glance"), "glance", "Wood.glance", defArgs s_Wood_glance, defBody s_Wood_glance, defScope s_Wood_glance, [], []⟩
def d_Wood_way : He.DefD := ⟨("Wood", some "way"), "way", "Wood.way", defArgs s_Wood_way, defBody s_Wood_way, defScope s_Wood_way, [], []⟩
def d_Wood_price : He.DefD := ⟨("Wood", some "price"), "price", "Wood.price", defArgs s_Wood_price, defBody s_Wood_price, defScope s_Wood_price, [], []⟩
def d_Wood_put : He.DefD := ⟨("Wood", some "put"), "put", "Wood.put", defArgs s_Wood_put, defBody s_Wood_put, defScope s_Wood_put, [], []⟩
def d_Wood_copied : He.DefD := ⟨("Wood", some "copied"), "copied", "Wood.copied", defArgs s_Wood_copied, defBody s_Wood_copied, defScope s_Wood_copied, [], []⟩
def d_Wood_copies : He.DefD := ⟨("Wood", some "copies"), "copies", "Wood.copies", defArgs s_Wood_copies, defBody s_Wood_copies, defScope s_Wood_copies, [], []⟩
def d_Wood_places : He.DefD := ⟨("Wood", some "places"), "places", "Wood.places", defArgs s_Wood_places, defBody s_Wood_places, defScope s_Wood_places, [], []⟩
def d_Wood_calls : He.DefD := ⟨("Wood", some "calls"), "calls", "Wood.calls", defArgs s_Wood_calls, defBody s_Wood_calls, defScope s_Wood_calls, [], []⟩
def d_number_of : He.DefD := ⟨("number_of", none), "number_of", "number_of", defArgs s_number_of, defBody s_number_of, defScope s_number_of, [], []⟩
def d_deed_of : He.DefD := ⟨("deed_of", none), "deed_of", "deed_of", defArgs s_deed_of, defBody s_deed_of, defScope s_deed_of, [], []⟩
def d_done : He.DefD := ⟨("done", none), "done", "done", defArgs s_done, defBody s_done, defScope s_done, [], []⟩
def d_answer : He.DefD := ⟨("answer", none), "answer", "answer", defArgs s_answer, defBody s_answer, defScope s_answer, [], []⟩
def d_played : He.DefD := ⟨("played", none), "played", "played", defArgs s_played, defBody s_played, defScope s_played, [], []⟩
def d_least_rooms : He.DefD := ⟨("least_rooms", none), "least_rooms", "least_rooms", defArgs s_least_rooms, defBody s_least_rooms, defScope s_least_rooms, [], []⟩
def d_rooms_of : He.DefD := ⟨("rooms_of", none), "rooms_of", "rooms_of", defArgs s_rooms_of, defBody s_rooms_of, defScope s_rooms_of, [], []⟩
def d_top : He.DefD := ⟨("top", none), "top", "top", defArgs s_top, defBody s_top, defScope s_top, [], []⟩
def d_held : He.DefD := ⟨("held", none), "held", "held", defArgs s_held, defBody s_held, defScope s_held, [], []⟩
def d_common : He.DefD := ⟨("common", none), "common", "common", defArgs s_common, defBody s_common, defScope s_common, [], []⟩
def d_alone : He.DefD := ⟨("alone", none), "alone", "alone", defArgs s_alone, defBody s_alone, defScope s_alone, [], []⟩
def d_l_dice : He.DefD := ⟨("_law_dice", none), "_law_dice", "_law_dice", defArgs s_l_dice, defBody s_l_dice, defScope s_l_dice, [], []⟩
def d_l_next : He.DefD := ⟨("_law_next", none), "_law_next", "_law_next", defArgs s_l_next, defBody s_l_next, defScope s_l_next, [], []⟩
def d_l_like : He.DefD := ⟨("_law_like", none), "_law_like", "_law_like", defArgs s_l_like, defBody s_l_like, defScope s_l_like, [], []⟩
def d_l_number : He.DefD := ⟨("_law_number", none), "_law_number", "_law_number", defArgs s_l_number, defBody s_l_number, defScope s_l_number, [], []⟩
def d_l_deed : He.DefD := ⟨("_law_deed", none), "_law_deed", "_law_deed", defArgs s_l_deed, defBody s_l_deed, defScope s_l_deed, [], []⟩
def d_l_does : He.DefD := ⟨("_law_does", none), "_law_does", "_law_does", defArgs s_l_does, defBody s_l_does, defScope s_l_does, [], []⟩
def d_l_wood : He.DefD := ⟨("_law_wood", none), "_law_wood", "_law_wood", defArgs s_l_wood, defBody s_l_wood, defScope s_l_wood, [], []⟩
def d_l_pile : He.DefD := ⟨("_law_pile", none), "_law_pile", "_law_pile", defArgs s_l_pile, defBody s_l_pile, defScope s_l_pile, [], []⟩
def d_l_swept : He.DefD := ⟨("_law_swept", none), "_law_swept", "_law_swept", defArgs s_l_swept, defBody s_l_swept, defScope s_l_swept, [], []⟩
def d_l_needs : He.DefD := ⟨("_law_needs", none), "_law_needs", "_law_needs", defArgs s_l_needs, defBody s_l_needs, defScope s_l_needs, [], []⟩
def d_l_free : He.DefD := ⟨("_law_free", none), "_law_free", "_law_free", defArgs s_l_free, defBody s_l_free, defScope s_l_free, [], []⟩
def d_l_price : He.DefD := ⟨("_law_price", none), "_law_price", "_law_price", defArgs s_l_price, defBody s_l_price, defScope s_l_price, [], []⟩
def d_l_call : He.DefD := ⟨("_law_call", none), "_law_call", "_law_call", defArgs s_l_call, defBody s_l_call, defScope s_l_call, [], []⟩
def d_l_put : He.DefD := ⟨("_law_put", none), "_law_put", "_law_put", defArgs s_l_put, defBody s_l_put, defScope s_l_put, [], []⟩
def d_l_fault : He.DefD := ⟨("_law_fault", none), "_law_fault", "_law_fault", defArgs s_l_fault, defBody s_l_fault, defScope s_l_fault, [], []⟩
def d_l_due : He.DefD := ⟨("_law_due", none), "_law_due", "_law_due", defArgs s_l_due, defBody s_l_due, defScope s_l_due, [], []⟩
def d_l_deep : He.DefD := ⟨("_law_deep", none), "_law_deep", "_law_deep", defArgs s_l_deep, defBody s_l_deep, defScope s_l_deep, [], []⟩
def d_l_is_wood : He.DefD := ⟨("_law_is_wood", none), "_law_is_wood", "_law_is_wood", defArgs s_l_is_wood, defBody s_l_is_wood, defScope s_l_is_wood, [], []⟩
def d_l_told : He.DefD := ⟨("_law_told", none), "_law_told", "_law_told", defArgs s_l_told, defBody s_l_told, defScope s_l_told, [], []⟩
def d_l_works : He.DefD := ⟨("_law_works", none), "_law_works", "_law_works", defArgs s_l_works, defBody s_l_works, defScope s_l_works, [], []⟩
def d_l_counts : He.DefD := ⟨("_law_counts", none), "_law_counts", "_law_counts", defArgs s_l_counts, defBody s_l_counts, defScope s_l_counts, [], []⟩
def d_law : He.DefD := ⟨("law", none), "law", "law", defArgs s_law, defBody s_law, defScope s_law, [], []⟩
def fnL : List He.DefD := [d_Frame_init, d_Wood_init, d_Wood_need_hand, d_Wood_need_place, d_Wood_hands, d_Wood_path, d_Wood_new_room, d_Wood_need_free, d_Wood_want, d_Wood_leave, d_Wood_call, d_Wood_back, d_Wood_turn_to, d_Wood_branch, d_Wood_keep, d_Wood_leap, d_Wood_forget, d_Wood_look, d_Wood_glance, d_Wood_way, d_Wood_price, d_Wood_put, d_Wood_copied, d_Wood_copies, d_Wood_places, d_Wood_calls, d_number_of, d_deed_of, d_done, d_answer, d_played, d_least_rooms, d_rooms_of, d_top, d_held, d_common, d_alone, d_l_dice, d_l_next, d_l_like, d_l_number, d_l_deed, d_l_does, d_l_wood, d_l_pile, d_l_swept, d_l_needs, d_l_free, d_l_price, d_l_call, d_l_put, d_l_fault, d_l_due, d_l_deep, d_l_is_wood, d_l_told, d_l_works, d_l_counts, d_law]
def faL0 : List He.Fa := [.free "list", .int "MOST_HANDS" 6, .int "MOST_ROOMS" 40, .glo "BadWood", .free "range", .free "len", .glo "NoHand", .glo "NoPlace", .free "min", .glo "NoRoom", .int "MOST_VALUES" 3, .glo "NoSlot", .glo "Frame", .glo "NoCall", .free "reversed", .free "sorted", .int "MOST_FIGURES" 6, .free "int", .glo "COUNTS", .free "str", .glo "deed_of", .glo "done", .glo "Wood", .glo "answer", .free "max", .free "dict", .glo "rooms_of", .glo "top", .free "isinstance", .free "bool"]
def faL1 : List He.Fa := [.free "tuple", .glo "_law_like", .glo "_law_next", .glo "_law_number", .glo "_law_pile", .glo "_law_free", .glo "_law_price", .glo "_law_fault", .glo "_law_call", .glo "_law_put", .glo "_law_swept", .glo "_law_needs", .glo "WoodError", .free "ValueError", .glo "_law_dice", .glo "_law_counts", .glo "_law_wood", .glo "_law_deed", .glo "_law_deep", .glo "_law_told", .glo "_law_due", .glo "_law_works", .glo "_law_is_wood", .str "FIGURES" "0123456789", .glo "number_of", .glo "held", .glo "common", .glo "alone", .glo "played", .glo "least_rooms"]
def faL2 : List He.Fa := [.glo "_law_does", .glo "law", .exc "BadWood", .exm "BadWood" "WoodError" true, .exc "NoHand", .exm "NoHand" "WoodError" true, .exc "NoPlace", .exm "NoPlace" "WoodError" true, .exc "NoCall", .exm "NoCall" "WoodError" true, .exc "NoSlot", .exm "NoSlot" "WoodError" true, .exc "NoRoom", .exm "NoRoom" "WoodError" true, .cls "Frame", .mkr "Frame", .noat "Frame" "below", .noat "Frame" "slots", .noat "Frame" "needs", .cls "Wood", .mkr "Wood", .noat "Wood" "rooms", .noat "Wood" "frames", .noat "Wood" "tops", .noat "Wood" "marks", .noat "Wood" "many", .noat "Wood" "made", .meth "Wood" "need_hand", .meth "Wood" "need_place", .meth "Wood" "hands"]
def faL3 : List He.Fa := [.meth "Wood" "path", .meth "Wood" "new_room", .meth "Wood" "need_free", .meth "Wood" "want", .meth "Wood" "leave", .meth "Wood" "call", .meth "Wood" "back", .meth "Wood" "turn_to", .meth "Wood" "branch", .meth "Wood" "keep", .meth "Wood" "leap", .meth "Wood" "forget", .meth "Wood" "look", .meth "Wood" "glance", .meth "Wood" "way", .meth "Wood" "price", .meth "Wood" "put", .meth "Wood" "copied", .meth "Wood" "copies", .meth "Wood" "places", .meth "Wood" "calls"]
def faL : List He.Fa := faL0 ++ (faL1 ++ (faL2 ++ (faL3)))
def excC (K : PySem.W.Frag) (x : Str) : Bool := decide (PySem.W.findIn K (.ref (He.ga K x)) "__getattribute__" = some (some (.builtin "BaseException.__getattribute__"))) && (decide (PySem.W.findIn K (.ref (He.ga K x)) "__getattr__" = some none) && (PySem.W.hasDictIn K (He.ga K x) && (decide (PySem.W.findIn K (.ref (He.ga K x)) "__class__" = some (some (.builtin "object.__class__"))) && decide (PySem.W.mroIn K (He.ga K x) (.type "object") = some true))))
def excK (K : PySem.W.Frag) (x y : Str) (b : Bool) : Bool := decide (PySem.W.kitOne K (.ref (He.ga K x)) (.ref (He.ga K y)) = some b)
def exAll (K : PySem.W.Frag) : Bool := exN.all fun x => excC K x && (decide (PySem.W.kitOne K (.ref (He.ga K x)) (.type "ValueError") = some true) && exN.all fun y => excK K x y (decide (x = y)) && decide (PySem.W.exmOne K (.ref (He.ga K x)) (.ref (He.ga K y)) = some (decide (x = y))))
def exK (K : PySem.W.Frag) : Bool := decide (PySem.W.specialIn K (.builtin "object.__class__") "__get__" = some (some (.builtin "getset_descriptor.__get__"))) && (decide (PySem.W.takesIn K (.builtin "object.__class__") = some true) && (exAll K && vkB K))
def tbL : List He.Tab := [(fun K => He.ga K "COUNTS", cntK)]
def tfL : List He.Defn := [("_law_works", none), ("_law_counts", none), ("law", none)]
abbrev R : PySem.W.OpenRow := PySem.W.OpenLaw.row PySem.Challenge.rw_stackwood_k01_what_is_none
abbrev hk : PySem.W.Hook := He.hookX 5 faL fnL tbL tfL exK
def ob (s : PySem.W.SharedT) : He.AlX := He.obsX 5 faL fnL tbL tfL exK (HandSHeadRun.getT s)
theorem ob_eq (s : PySem.W.SharedT) : ob s = hk.obs s.abs := He.obsX_eq (HandSHeadRun.getT_eq s)
def looseL : List Str := (["WoodError", "BadWood", "NoHand", "NoPlace", "NoCall", "NoSlot", "NoRoom", "MOST_HANDS", "MOST_ROOMS", "MOST_VALUES", "Frame", "Wood", "FIGURES", "MOST_FIGURES", "COUNTS", "number_of", "deed_of", "done", "answer", "played", "least_rooms", "rooms_of", "top", "held", "common", "alone", "_law_dice", "_law_next", "_law_like", "_law_number"] : List Str) ++ (["_law_deed", "_law_does", "_law_wood", "_law_pile", "_law_swept", "_law_needs", "_law_free", "_law_price", "_law_call", "_law_put", "_law_fault", "_law_due", "_law_deep", "_law_is_wood", "_law_told", "_law_works", "_law_counts"] : List Str)
theorem runF (w : World) : HandSHeadRun.RunEq R (PySem.W.view R.prog [52]) hk ob 4000 looseL (w.withFollow "special-get-raises" false) := by
  intro os
  kernel_rfl
theorem runT (w : World) : HandSHeadRun.RunEq R (PySem.W.view R.prog [52]) hk ob 4000 looseL (w.withFollow "special-get-raises" true) := by
  intro os
  kernel_rfl
theorem run (w : World) : HandSHeadRun.RunEq R (PySem.W.view R.prog [52]) hk ob 4000 looseL w := PySem.W.byRow2 "special-get-raises" (P := fun w => HandSHeadRun.RunEq R (PySem.W.view R.prog [52]) hk ob 4000 looseL w) runF runT w
end Sk
end
section
/-! SwMath: the wood in plain Lean: rooms that stand on each other, counted; no program here. -/
namespace SW
structure Fr where
  below : Option Int
  slots : List Int
  needs : Int
abbrev Fs := List (Int × Fr)

/-! ### tables -/
section
variable {α : Type}
def lk : List (Int × α) → Int → Option α
  | [], _ => none
  | (j, a) :: r, k => if j = k then some a else lk r k
def has (l : List (Int × α)) (k : Int) : Bool := (lk l k).isSome
def pt : List (Int × α) → Int → α → List (Int × α)
  | [], k, v => [(k, v)]
  | (j, a) :: r, k, v => if j = k then (j, v) :: r else (j, a) :: pt r k v
def dr (l : List (Int × α)) (k : Int) : List (Int × α) := l.filter fun q => decide (q.1 ≠ k)
def ks (l : List (Int × α)) : List Int := l.map (·.1)
theorem lk_pt (l : List (Int × α)) (k : Int) (v : α) (j : Int) : lk (pt l k v) j = if j = k then some v else lk l j := by
  induction l with
  | nil =>
    by_cases h : j = k
    · subst h; simp [pt, lk]
    · have h' : ¬ k = j := fun e => h e.symm
      simp [pt, lk, h, h']
  | cons p r ih =>
    obtain ⟨i, a⟩ := p
    by_cases h : i = k
    · subst h
      by_cases h2 : j = i
      · subst h2; simp [pt, lk]
      · have h' : ¬ i = j := fun e => h2 e.symm
        simp [pt, lk, h2, h']
    · by_cases h2 : i = j
      · subst h2; simp [pt, lk, h]
      · simp [pt, lk, h, h2, ih]
theorem lk_pt_same (l : List (Int × α)) (k : Int) (v : α) : lk (pt l k v) k = some v := by rw [lk_pt, if_pos rfl]
theorem lk_pt_ne {l : List (Int × α)} {k j : Int} {v : α} (h : j ≠ k) : lk (pt l k v) j = lk l j := by rw [lk_pt, if_neg h]
theorem lk_dr (l : List (Int × α)) (k j : Int) : lk (dr l k) j = if j = k then none else lk l j := by
  induction l with
  | nil => simp [dr, lk]
  | cons p r ih =>
    obtain ⟨i, a⟩ := p
    have e : dr ((i, a) :: r) k = if i = k then dr r k else (i, a) :: dr r k := by
      by_cases h : i = k <;> simp [dr, h]
    rw [e]
    by_cases h : i = k
    · rw [if_pos h, ih]
      by_cases h2 : j = k
      · simp [h2]
      · have h' : ¬ i = j := fun e => h2 (e.symm.trans h)
        simp [lk, h2, h']
    · rw [if_neg h]
      by_cases h2 : i = j
      · subst h2; simp [lk, h]
      · simp [lk, h2, ih]
theorem lk_dr_ne {l : List (Int × α)} {k j : Int} (h : j ≠ k) : lk (dr l k) j = lk l j := by rw [lk_dr, if_neg h]
theorem lk_mem : ∀ {l : List (Int × α)} {k : Int} {v : α}, lk l k = some v → (k, v) ∈ l
  | [], _, _, h => by simp [lk] at h
  | (j, a) :: r, k, v, h => by
    by_cases e : j = k
    · simp [lk, e] at h; simp [e, h]
    · simp [lk, e] at h; exact List.mem_cons_of_mem _ (lk_mem h)
theorem mem_ks {l : List (Int × α)} {k : Int} : k ∈ ks l ↔ ∃ v, lk l k = some v := by
  induction l with
  | nil => simp [ks, lk]
  | cons p r ih =>
    obtain ⟨j, a⟩ := p
    have ih' : k ∈ List.map (·.1) r ↔ ∃ v, lk r k = some v := ih
    by_cases e : j = k
    · simp [ks, lk, e]
    · have e' : ¬ k = j := fun z => e z.symm
      simp only [ks, List.map_cons, List.mem_cons, e', false_or, lk, e, if_false]
      exact ih'
theorem not_mem_ks {l : List (Int × α)} {k : Int} : k ∉ ks l ↔ lk l k = none := by
  rw [mem_ks]
  cases lk l k <;> simp
theorem mem_lk : ∀ {l : List (Int × α)} {k : Int} {v : α}, (ks l).Nodup → (k, v) ∈ l → lk l k = some v
  | [], _, _, _, h => by simp at h
  | (j, a) :: r, k, v, nd, h => by
    have nd' : j ∉ ks r ∧ (ks r).Nodup := List.nodup_cons.mp nd
    rcases List.mem_cons.mp h with e | e
    · cases e; simp [lk]
    · have hk : k ∈ ks r := List.mem_map.mpr ⟨_, e, rfl⟩
      have ne : ¬ j = k := fun z => nd'.1 (z ▸ hk)
      simp [lk, ne]; exact mem_lk nd'.2 e
theorem ks_pt_old : ∀ {l : List (Int × α)} {k : Int} {v : α}, k ∈ ks l → ks (pt l k v) = ks l
  | [], _, _, h => by simp [ks] at h
  | (j, a) :: r, k, v, h => by
    by_cases e : j = k
    · simp [pt, ks, e]
    · have h' : k ∈ ks r := by
        rcases List.mem_cons.mp (show k ∈ j :: ks r from h) with z | z
        · exact absurd z.symm e
        · exact z
      have ih := ks_pt_old (v := v) h'
      simp only [pt, e, if_false]
      show j :: ks (pt r k v) = j :: ks r
      rw [ih]
theorem pt_new : ∀ {l : List (Int × α)} {k : Int} {v : α}, lk l k = none → pt l k v = l ++ [(k, v)]
  | [], _, _, _ => rfl
  | (j, a) :: r, k, v, h => by
    by_cases e : j = k
    · simp [lk, e] at h
    · simp [lk, e] at h
      simp [pt, e, pt_new h]
theorem ks_pt_new {l : List (Int × α)} {k : Int} {v : α} (h : lk l k = none) : ks (pt l k v) = ks l ++ [k] := by
  rw [pt_new h]; simp [ks]
theorem nd_pt {l : List (Int × α)} {k : Int} {v : α} (nd : (ks l).Nodup) : (ks (pt l k v)).Nodup := by
  by_cases h : k ∈ ks l
  · rw [ks_pt_old h]; exact nd
  · rw [ks_pt_new (not_mem_ks.mp h)]
    rw [List.nodup_append]
    refine ⟨nd, by simp, fun a ha b hb e => ?_⟩
    simp at hb; subst hb; subst e; exact h ha
theorem ks_dr (l : List (Int × α)) (k : Int) : ks (dr l k) = (ks l).filter fun j => decide (j ≠ k) := by
  induction l with
  | nil => rfl
  | cons p r ih =>
    obtain ⟨j, a⟩ := p
    have ih' : List.map (·.1) (dr r k) = List.filter (fun j => decide (j ≠ k)) (List.map (·.1) r) := ih
    by_cases e : j = k
    · simp [dr, ks, e] at ih' ⊢; exact ih'
    · simp [dr, ks, e] at ih' ⊢; exact ih'
theorem nd_dr {l : List (Int × α)} {k : Int} (nd : (ks l).Nodup) : (ks (dr l k)).Nodup := by
  rw [ks_dr]; exact nd.filter _
theorem len_pt_old {l : List (Int × α)} {k : Int} {v : α} (h : k ∈ ks l) : (pt l k v).length = l.length := by
  have := congrArg List.length (ks_pt_old (v := v) h)
  simpa [ks] using this
theorem len_pt_new {l : List (Int × α)} {k : Int} {v : α} (h : lk l k = none) : (pt l k v).length = l.length + 1 := by
  rw [pt_new h]; simp
theorem dr_no : ∀ {l : List (Int × α)} {k : Int}, lk l k = none → dr l k = l
  | [], _, _ => rfl
  | (j, a) :: r, k, h => by
    by_cases e : j = k
    · simp [lk, e] at h
    · simp [lk, e] at h
      have := dr_no h
      simp [dr, e] at this ⊢; exact this
theorem len_dr : ∀ {l : List (Int × α)} {k : Int} {v : α}, (ks l).Nodup → lk l k = some v → (dr l k).length + 1 = l.length
  | [], _, _, _, h => by simp [lk] at h
  | (j, a) :: r, k, v, nd, h => by
    have nd' : j ∉ ks r ∧ (ks r).Nodup := List.nodup_cons.mp nd
    by_cases e : j = k
    · subst e
      have := dr_no (not_mem_ks.mp nd'.1)
      have e2 : dr ((j, a) :: r) j = dr r j := by simp [dr]
      rw [e2, this]; rfl
    · simp [lk, e] at h
      have := len_dr nd'.2 h
      simp [dr, e] at this ⊢; exact this
end

/-! ### who needs whom -/
/-- 1 if b is r -/
def one (b : Option Int) (r : Int) : Nat := if b = some r then 1 else 0
theorem one_same (r : Int) : one (some r) r = 1 := by simp [one]
theorem one_none (r : Int) : one none r = 0 := by simp [one]
theorem one_ne {b : Option Int} {r : Int} (h : b ≠ some r) : one b r = 0 := by simp [one, h]
/-- how many frames stand on r -/
def cb (fs : Fs) (r : Int) : Nat := match fs with
  | [] => 0
  | q :: l => one q.2.below r + cb l r
theorem cb_app (fs gs : Fs) (r : Int) : cb (fs ++ gs) r = cb fs r + cb gs r := by
  induction fs with
  | nil => simp [cb]
  | cons q l ih => simp [cb, ih]; omega
theorem cb_pt_new {fs : Fs} {k : Int} {v : Fr} (h : lk fs k = none) (r : Int) : cb (pt fs k v) r = cb fs r + one v.below r := by
  rw [pt_new h, cb_app]; simp [cb]
theorem cb_pt : ∀ {fs : Fs} {k : Int} {f v : Fr}, lk fs k = some f → ∀ r : Int, cb (pt fs k v) r + one f.below r = cb fs r + one v.below r
  | [], _, _, _, h, _ => by simp [lk] at h
  | (j, a) :: l, k, f, v, h, r => by
    by_cases e : j = k
    · simp [lk, e] at h; subst h; simp [pt, e, cb]; omega
    · simp [lk, e] at h
      have := cb_pt (v := v) h r
      simp [pt, e, cb]; omega
theorem cb_pt_same {fs : Fs} {k : Int} {f v : Fr} (h : lk fs k = some f) (e : v.below = f.below) (r : Int) : cb (pt fs k v) r = cb fs r := by
  have := cb_pt (v := v) h r
  rw [e] at this; omega
theorem cb_dr : ∀ {fs : Fs} {k : Int} {f : Fr}, (ks fs).Nodup → lk fs k = some f → ∀ r : Int, cb (dr fs k) r + one f.below r = cb fs r
  | [], _, _, _, h, _ => by simp [lk] at h
  | (j, a) :: l, k, f, nd, h, r => by
    have nd' : j ∉ ks l ∧ (ks l).Nodup := List.nodup_cons.mp nd
    by_cases e : j = k
    · subst e
      simp [lk] at h; subst h
      have z : dr ((j, a) :: l) j = l := by
        have := dr_no (not_mem_ks.mp nd'.1)
        have e2 : dr ((j, a) :: l) j = dr l j := by simp [dr]
        rw [e2, this]
      rw [z]; simp [cb]; omega
    · simp [lk, e] at h
      have := cb_dr nd'.2 h r
      have e2 : dr ((j, a) :: l) k = (j, a) :: dr l k := by simp [dr, e]
      rw [e2]; simp [cb]; omega
theorem cb_ge : ∀ {fs : Fs} {k : Int} {f : Fr} {r : Int}, lk fs k = some f → f.below = some r → 1 ≤ cb fs r
  | [], _, _, _, h, _ => by simp [lk] at h
  | (j, a) :: l, k, f, r, h, hb => by
    by_cases e : j = k
    · simp [lk, e] at h; subst h; simp [cb, hb, one_same]
    · simp [lk, e] at h
      have := cb_ge h hb
      simp [cb]; omega
theorem cb_pos : ∀ {fs : Fs} {r : Int}, (ks fs).Nodup → 1 ≤ cb fs r → ∃ k f, lk fs k = some f ∧ f.below = some r
  | [], _, _, h => by simp [cb] at h
  | (j, a) :: l, r, nd, h => by
    have nd' : j ∉ ks l ∧ (ks l).Nodup := List.nodup_cons.mp nd
    by_cases e : a.below = some r
    · exact ⟨j, a, by simp [lk], e⟩
    · simp [cb, one_ne e] at h
      obtain ⟨k, f, h1, h2⟩ := cb_pos nd'.2 h
      have ne : ¬ j = k := fun z => nd'.1 (mem_ks.mpr ⟨f, z ▸ h1⟩)
      exact ⟨k, f, by simp [lk, ne, h1], h2⟩
theorem cb_two {fs : Fs} {j k : Int} {f g : Fr} {r : Int} (nd : (ks fs).Nodup) (h1 : lk fs j = some f) (h2 : lk fs k = some g) (ne : j ≠ k) (b1 : f.below = some r) (b2 : g.below = some r) : 2 ≤ cb fs r := by
  have a := cb_dr nd h1 r
  have b : lk (dr fs j) k = some g := by rw [lk_dr_ne ne.symm]; exact h2
  have c := cb_ge b b2
  rw [b1, one_same] at a
  omega

/-! ### piles -/
inductive Path (fs : Fs) : Option Int → List Int → Prop
  | nil : Path fs none []
  | cons {r : Int} {f : Fr} {l : List Int} : lk fs r = some f → Path fs f.below l → Path fs (some r) (r :: l)
theorem Path.det {fs : Fs} {x : Option Int} {l m : List Int} (h : Path fs x l) : Path fs x m → l = m := by
  induction h generalizing m with
  | nil => intro h; cases h; rfl
  | cons e _ ih =>
    intro h
    cases h with
    | cons e' h' =>
      rw [e] at e'; cases e'
      rw [ih h']
theorem Path.in {fs : Fs} {x : Option Int} {l : List Int} (h : Path fs x l) : ∀ r ∈ l, ∃ f, lk fs r = some f := by
  induction h with
  | nil => intro r hr; simp at hr
  | cons e _ ih =>
    intro r hr
    rcases List.mem_cons.mp hr with z | z
    · exact ⟨_, z ▸ e⟩
    · exact ih r z
theorem Path.sub {fs : Fs} {x : Option Int} {l : List Int} (h : Path fs x l) : ∀ r ∈ l, ∃ m, Path fs (some r) m ∧ m.length ≤ l.length := by
  induction h with
  | nil => intro r hr; simp at hr
  | cons e p ih =>
    intro r hr
    rcases List.mem_cons.mp hr with z | z
    · subst z; exact ⟨_, .cons e p, Nat.le_refl _⟩
    · obtain ⟨m, h1, h2⟩ := ih r z
      exact ⟨m, h1, by simp; omega⟩
theorem Path.nodup {fs : Fs} {x : Option Int} {l : List Int} (h : Path fs x l) : l.Nodup := by
  induction h with
  | nil => simp
  | cons e p ih =>
    refine List.nodup_cons.mpr ⟨fun hr => ?_, ih⟩
    obtain ⟨m, h1, h2⟩ := p.sub _ hr
    have := (Path.cons e p).det h1
    subst this
    simp at h2
    omega
/-- the pile goes the same way where the rooms on it stand on the same -/
theorem Path.congr {fs gs : Fs} {x : Option Int} {l : List Int} (h : Path fs x l) : (∀ r ∈ l, ∀ f, lk fs r = some f → ∃ g, lk gs r = some g ∧ g.below = f.below) → Path gs x l := by
  induction h with
  | nil => intro _; exact .nil
  | cons e _ ih =>
    intro k
    obtain ⟨g, h1, h2⟩ := k _ List.mem_cons_self _ e
    exact .cons h1 (h2 ▸ ih fun r hr => k r (List.mem_cons_of_mem _ hr))
theorem Path.none_nil {fs : Fs} {l : List Int} (h : Path fs none l) : l = [] := by cases h; rfl
theorem Path.of_some {fs : Fs} {r : Int} {l : List Int} (h : Path fs (some r) l) : ∃ f m, lk fs r = some f ∧ Path fs f.below m ∧ l = r :: m := by
  cases h with
  | cons e p => exact ⟨_, _, e, p, rfl⟩
/-- the path function, by fuel -/
def pathF : Nat → Fs → Option Int → List Int
  | 0, _, _ => []
  | _ + 1, _, none => []
  | n + 1, fs, some r => match lk fs r with
    | none => []
    | some f => r :: pathF n fs f.below
theorem Path.fuel {fs : Fs} {x : Option Int} {l : List Int} (h : Path fs x l) : ∀ {n : Nat}, l.length < n → pathF n fs x = l := by
  induction h with
  | nil => intro n hn; cases n with
    | zero => rfl
    | succ n => rfl
  | cons e _ ih =>
    intro n hn
    cases n with
    | zero => omega
    | succ n =>
      simp only [pathF, e]
      rw [ih (by simp at hn; omega)]
theorem sub_len {l m : List Int} (nd : l.Nodup) (h : ∀ r ∈ l, r ∈ m) : l.length ≤ m.length := by
  induction l generalizing m with
  | nil => simp
  | cons a t ih =>
    have nd' := List.nodup_cons.mp nd
    have ha : a ∈ m := h a List.mem_cons_self
    have h2 : ∀ r ∈ t, r ∈ m.erase a := fun r hr => by
      have ne : r ≠ a := fun z => nd'.1 (z ▸ hr)
      exact (List.mem_erase_of_ne ne).mpr (h r (List.mem_cons_of_mem _ hr))
    have := ih nd'.2 h2
    rw [List.length_erase_of_mem ha] at this
    have : 0 < m.length := List.length_pos_of_mem ha
    simp; omega
theorem Path.len {fs : Fs} {x : Option Int} {l : List Int} (h : Path fs x l) : l.length ≤ fs.length := by
  have := sub_len (m := ks fs) h.nodup fun r hr => mem_ks.mpr (h.in r hr)
  simpa [ks] using this
def path (fs : Fs) (x : Option Int) : List Int := pathF (fs.length + 1) fs x
theorem Path.eq {fs : Fs} {x : Option Int} {l : List Int} (h : Path fs x l) : path fs x = l := h.fuel (Nat.lt_succ_of_le h.len)

/-! ### the counts are right -/
structure WF (fs : Fs) (c : Int → Nat) : Prop where
  nd : (ks fs).Nodup
  nb : ∀ r f, lk fs r = some f → f.needs = ((c r + cb fs r : Nat) : Int)
  pos : ∀ r f, lk fs r = some f → 1 ≤ f.needs
  cin : ∀ r, 1 ≤ c r → ∃ f, lk fs r = some f
  bin : ∀ k f r, lk fs k = some f → f.below = some r → ∃ g, lk fs r = some g
  fin : ∀ r f, lk fs r = some f → ∃ l, Path fs (some r) l
theorem WF.ext {fs : Fs} {c c' : Int → Nat} (h : WF fs c) (e : ∀ r, c r = c' r) : WF fs c' := by
  have : c = c' := funext e
  rw [← this]; exact h
theorem WF.path {fs : Fs} {c : Int → Nat} (h : WF fs c) (x : Option Int) (hx : ∀ r, x = some r → ∃ f, lk fs r = some f) : Path fs x (path fs x) := by
  cases x with
  | none => rw [Path.eq .nil]; exact .nil
  | some r =>
    obtain ⟨f, hf⟩ := hx r rfl
    obtain ⟨l, hl⟩ := h.fin r f hf
    rw [hl.eq]; exact hl
def wantF (fs : Fs) (x : Option Int) : Fs := match x with
  | none => fs
  | some r => match lk fs r with
    | none => fs
    | some f => pt fs r { f with needs := f.needs + 1 }
/-- the leaving loop -/
def leaveF : Nat → Fs → Option Int → Fs
  | 0, fs, _ => fs
  | _ + 1, fs, none => fs
  | n + 1, fs, some r => match lk fs r with
    | none => fs
    | some f => if f.needs - 1 > 0 then pt fs r { f with needs := f.needs - 1 } else leaveF n (dr fs r) f.below
inductive Leave : Fs → Option Int → Fs → Prop
  | nil {fs : Fs} : Leave fs none fs
  | stop {fs : Fs} {r : Int} {f : Fr} : lk fs r = some f → f.needs - 1 > 0 → Leave fs (some r) (pt fs r { f with needs := f.needs - 1 })
  | go {fs gs : Fs} {r : Int} {f : Fr} : lk fs r = some f → ¬ f.needs - 1 > 0 → Leave (dr fs r) f.below gs → Leave fs (some r) gs
theorem Leave.fuel {fs gs : Fs} {x : Option Int} (h : Leave fs x gs) : (ks fs).Nodup → ∀ {n : Nat}, fs.length < n → leaveF n fs x = gs := by
  induction h with
  | nil => intro nd n hn; cases n <;> rfl
  | stop e g =>
    intro nd n hn
    cases n with
    | zero => omega
    | succ n => simp only [leaveF, e]; rw [if_pos g]
  | go e g _ ih =>
    intro nd n hn
    cases n with
    | zero => omega
    | succ n =>
      simp only [leaveF, e]
      rw [if_neg g]
      have := len_dr nd e
      exact ih (nd_dr nd) (by omega)
def leave (fs : Fs) (x : Option Int) : Fs := leaveF (fs.length + 1) fs x
theorem Leave.eq {fs gs : Fs} {x : Option Int} (h : Leave fs x gs) (nd : (ks fs).Nodup) : leave fs x = gs := h.fuel nd (Nat.lt_succ_self _)

/-- what stands in gs stands in fs alike but for the needs -/
def Sub (gs fs : Fs) : Prop := ∀ r g, lk gs r = some g → ∃ f, lk fs r = some f ∧ f.below = g.below ∧ f.slots = g.slots
theorem Sub.refl (fs : Fs) : Sub fs fs := fun _ g h => ⟨g, h, rfl, rfl⟩
theorem Sub.trans {a b c : Fs} (h : Sub a b) (k : Sub b c) : Sub a c := fun r g e => by
  obtain ⟨f, h1, h2, h3⟩ := h r g e
  obtain ⟨f', k1, k2, k3⟩ := k r f h1
  exact ⟨f', k1, k2.trans h2, k3.trans h3⟩
theorem Sub.needs {fs : Fs} {r : Int} {f : Fr} (h : lk fs r = some f) (n : Int) : Sub (pt fs r { f with needs := n }) fs := fun k g e => by
  by_cases z : k = r
  · subst z; rw [lk_pt_same] at e; cases e; exact ⟨f, h, rfl, rfl⟩
  · rw [lk_pt_ne z] at e; exact ⟨g, e, rfl, rfl⟩
theorem Sub.dr (fs : Fs) (r : Int) : Sub (dr fs r) fs := fun k g e => by
  rw [lk_dr] at e
  split at e
  · cases e
  · exact ⟨g, e, rfl, rfl⟩
theorem Path.up {fs gs : Fs} {x : Option Int} {l : List Int} (h : Path gs x l) (s : Sub gs fs) : Path fs x l :=
  h.congr fun r _ f e => by
    obtain ⟨g, h1, h2, _⟩ := s r f e
    exact ⟨g, h1, h2⟩
theorem WF.path_sub {fs gs : Fs} {c : Int → Nat} (h : WF gs c) (s : Sub gs fs) {x : Option Int} (hx : ∀ r, x = some r → ∃ f, lk gs r = some f) {l : List Int} (p : Path fs x l) : Path gs x l := by
  have q := h.path x hx
  have := p.det (q.up s)
  rw [this]; exact q
theorem WF.needs_pt {fs : Fs} {c : Int → Nat} {r : Int} {f : Fr} {n : Int} {c' : Int → Nat} (h : WF fs c) (e : lk fs r = some f) (hn : 1 ≤ n) (hc : n = ((c' r + cb fs r : Nat) : Int)) (ho : ∀ k, k ≠ r → c' k = c k) :
    WF (pt fs r { f with needs := n }) c' := by
  have cbe : ∀ k, cb (pt fs r { f with needs := n }) k = cb fs k := fun k => cb_pt_same (v := { f with needs := n }) e rfl k
  have hin : ∀ k g, lk fs k = some g → ∃ g', lk (pt fs r { f with needs := n }) k = some g' ∧ g'.below = g.below := fun k g hk => by
    by_cases z : k = r
    · subst z; rw [e] at hk; cases hk; exact ⟨_, lk_pt_same _ _ _, rfl⟩
    · exact ⟨g, by rw [lk_pt_ne z]; exact hk, rfl⟩
  refine ⟨nd_pt h.nd, fun k g hk => ?_, fun k g hk => ?_, fun k hk => ?_, fun k g b hk hb => ?_, fun k g hk => ?_⟩
  · rw [cbe]
    by_cases z : k = r
    · subst z; rw [lk_pt_same] at hk; cases hk; exact hc
    · rw [lk_pt_ne z] at hk; rw [ho k z]; exact h.nb k g hk
  · by_cases z : k = r
    · subst z; rw [lk_pt_same] at hk; cases hk; exact hn
    · rw [lk_pt_ne z] at hk; exact h.pos k g hk
  · by_cases z : k = r
    · subst z; exact ⟨_, lk_pt_same _ _ _⟩
    · rw [ho k z] at hk
      obtain ⟨g, hg⟩ := h.cin k hk
      obtain ⟨g', h1, _⟩ := hin k g hg
      exact ⟨g', h1⟩
  · obtain ⟨f0, h1, h2, _⟩ := Sub.needs e n k g hk
    obtain ⟨g0, h3⟩ := h.bin k f0 b h1 (h2.trans hb)
    obtain ⟨g', h4, _⟩ := hin b g0 h3
    exact ⟨g', h4⟩
  · obtain ⟨f0, h1, h2, _⟩ := Sub.needs e n k g hk
    obtain ⟨l, hl⟩ := h.fin k f0 h1
    exact ⟨l, hl.congr fun r' _ g0 e0 => hin r' g0 e0⟩
theorem WF.want {fs : Fs} {c : Int → Nat} (h : WF fs c) (x : Option Int) (hx : ∀ r, x = some r → ∃ f, lk fs r = some f) : WF (wantF fs x) (fun k => c k + one x k) := by
  cases x with
  | none => exact h.ext fun r => by rw [one_none]; rfl
  | some r =>
    obtain ⟨f, e⟩ := hx r rfl
    have p := h.pos r f e
    have q := h.nb r f e
    simp only [wantF, e]
    refine h.needs_pt e (by omega) ?_ fun k z => ?_
    · rw [one_same]; omega
    · rw [one_ne (fun w => z (Option.some.inj w).symm)]; rfl
theorem Sub.want (fs : Fs) (x : Option Int) : Sub (wantF fs x) fs := by
  cases x with
  | none => exact Sub.refl fs
  | some r =>
    simp only [wantF]
    split
    · exact Sub.refl fs
    · exact Sub.needs (by assumption) _
theorem want_in {fs : Fs} {x : Option Int} {k : Int} {f : Fr} (h : lk fs k = some f) : ∃ g, lk (wantF fs x) k = some g ∧ g.below = f.below ∧ g.slots = f.slots := by
  cases x with
  | none => exact ⟨f, h, rfl, rfl⟩
  | some r =>
    simp only [wantF]
    split
    · exact ⟨f, h, rfl, rfl⟩
    · rename_i g e
      by_cases z : k = r
      · subst z; rw [h] at e; cases e; exact ⟨_, lk_pt_same _ _ _, rfl, rfl⟩
      · exact ⟨f, by rw [lk_pt_ne z]; exact h, rfl, rfl⟩
theorem ks_want (fs : Fs) (x : Option Int) : ks (wantF fs x) = ks fs := by
  cases x with
  | none => rfl
  | some r =>
    simp only [wantF]
    split
    · rfl
    · exact ks_pt_old (mem_ks.mpr ⟨_, by assumption⟩)
/-- leaving ends, and the counts are right again -/
theorem WF.leave : ∀ (n : Nat) {fs : Fs} {c : Int → Nat} {x : Option Int}, fs.length = n → WF fs (fun k => c k + one x k) → ∃ gs, Leave fs x gs ∧ WF gs c ∧ Sub gs fs
  | n, fs, c, none, hn, h => ⟨fs, .nil, h.ext fun r => by rw [one_none]; rfl, Sub.refl fs⟩
  | n, fs, c, some r, hn, h => by
    obtain ⟨f, e⟩ := h.cin r (by show 1 ≤ c r + one (some r) r; rw [one_same]; omega)
    have p := h.pos r f e
    have q := h.nb r f e
    have q' : f.needs = ((c r + 1 + cb fs r : Nat) : Int) := by
      have z : f.needs = ((c r + one (some r) r + cb fs r : Nat) : Int) := q
      rw [one_same] at z; exact z
    by_cases g : f.needs - 1 > 0
    · refine ⟨_, .stop e g, h.needs_pt e (by omega) (by omega) fun k z => ?_, Sub.needs e _⟩
      rw [one_ne (fun w => z (Option.some.inj w).symm)]; rfl
    · have c0 : c r = 0 := by omega
      have b0 : cb fs r = 0 := by omega
      have nob : ∀ k g, lk fs k = some g → g.below ≠ some r := fun k g hk hb => by
        have := cb_ge hk hb; omega
      have oc : ∀ k, k ≠ r → c k + one (some r) k = c k := fun k z => by
        rw [one_ne (fun w => z (Option.some.inj w).symm)]; rfl
      have hw : WF (dr fs r) (fun k => c k + one f.below k) := by
        refine ⟨nd_dr h.nd, fun k g hk => ?_, fun k g hk => ?_, fun k hk => ?_, fun k g b hk hb => ?_, fun k g hk => ?_⟩
        · rw [lk_dr] at hk
          split at hk
          · cases hk
          · rename_i z
            have a := h.nb k g hk
            have b := cb_dr h.nd e k
            have a' : g.needs = ((c k + one (some r) k + cb fs k : Nat) : Int) := a
            rw [oc k z] at a'
            show g.needs = ((c k + one f.below k + cb (SW.dr fs r) k : Nat) : Int)
            omega
        · rw [lk_dr] at hk
          split at hk
          · cases hk
          · exact h.pos k g hk
        · have hk' : 1 ≤ c k + one f.below k := hk
          by_cases z : k = r
          · subst z
            have : one f.below k = 0 := one_ne (nob k f e)
            omega
          · rw [lk_dr_ne z]
            by_cases w : f.below = some k
            · exact h.bin r f k e w
            · rw [one_ne w] at hk'
              exact h.cin k (by show 1 ≤ c k + one (some r) k; omega)
        · rw [lk_dr] at hk
          split at hk
          · cases hk
          · have z : b ≠ r := fun z => nob k g hk (z ▸ hb)
            rw [lk_dr_ne z]
            exact h.bin k g b hk hb
        · rw [lk_dr] at hk
          split at hk
          · cases hk
          · rename_i z
            obtain ⟨l, hl⟩ := h.fin k g hk
            have avoid : ∀ {x : Option Int} {l : List Int}, Path fs x l → x ≠ some r → r ∉ l := by
              intro x l hp
              induction hp with
              | nil => intro _ hr; simp at hr
              | cons e' _ ih =>
                intro hx hr
                rcases List.mem_cons.mp hr with w | w
                · exact hx (by rw [w])
                · exact ih (nob _ _ e') w
            have hr : r ∉ l := avoid hl (fun w => z (Option.some.inj w))
            exact ⟨l, hl.congr fun r' hr' g0 e0 => ⟨g0, by rw [lk_dr_ne (fun w : r' = r => hr (by rw [← w]; exact hr'))]; exact e0, rfl⟩⟩
      have hl := len_dr h.nd e
      obtain ⟨gs, h1, h2, h3⟩ := WF.leave (n - 1) (fs := SW.dr fs r) (c := c) (x := f.below) (by omega) hw
      exact ⟨gs, .go e g h1, h2, h3.trans (Sub.dr fs r)⟩
termination_by n _ _ x => n
decreasing_by
  have := len_dr h.nd e
  omega
end SW
end
section
/-! SwOps: what each deed of the wood does, in plain Lean, and that the counts stay right. -/
namespace SW
structure Wd where
  rooms : Int
  frames : Fs
  tops : List (Option Int)
  marks : List (Int × Option Int)
  many : Int
  made : Int
inductive Er | hand | place | call | slot | room
  deriving DecidableEq
/-- how many of these are r -/
def cR : List (Option Int) → Int → Nat
  | [], _ => 0
  | x :: t, r => one x r + cR t r
def mv (m : List (Int × Option Int)) : List (Option Int) := m.map (·.2)
def cW (W : Wd) (r : Int) : Nat := cR W.tops r + cR (mv W.marks) r
structure WFW (W : Wd) : Prop where
  wf : WF W.frames (cW W)
  r1 : 1 ≤ W.rooms
  r40 : W.rooms ≤ 40
  rng : ∀ r ∈ ks W.frames, 1 ≤ r ∧ r ≤ W.rooms
  ms : (ks W.marks).Pairwise (· < ·)
  mr : ∀ k ∈ ks W.marks, 0 ≤ k ∧ k < W.many
  m0 : 0 ≤ W.many
  h1 : 1 ≤ W.tops.length
  h6 : W.tops.length ≤ 6

theorem WFW.ndm {W : Wd} (F : WFW W) : (ks W.marks).Nodup := F.ms.imp fun h => by omega
theorem cR_set : ∀ (l : List (Option Int)) (i : Nat) (x : Option Int) (r : Int), i < l.length → cR (l.set i x) r + one (l.getD i none) r = cR l r + one x r
  | [], i, x, r, h => by simp at h
  | a :: t, 0, x, r, h => by simp [cR]; omega
  | a :: t, i + 1, x, r, h => by
    have := cR_set t i x r (by simpa using h)
    simp [cR] at this ⊢; omega
theorem cR_ge : ∀ {l : List (Option Int)} {r : Int}, some r ∈ l → 1 ≤ cR l r
  | [], _, h => by simp at h
  | a :: t, r, h => by
    rcases List.mem_cons.mp h with e | e
    · subst e; simp [cR, one_same]
    · have := cR_ge e; simp [cR]; omega
theorem cR_mem : ∀ {l : List (Option Int)} {r : Int}, 1 ≤ cR l r → some r ∈ l
  | [], _, h => by simp [cR] at h
  | a :: t, r, h => by
    by_cases e : a = some r
    · subst e; exact List.mem_cons_self
    · simp [cR, one_ne e] at h
      exact List.mem_cons_of_mem _ (cR_mem h)
theorem cR_app (l m : List (Option Int)) (r : Int) : cR (l ++ m) r = cR l r + cR m r := by
  induction l with
  | nil => simp [cR]
  | cons a t ih => simp [cR, ih]; omega
theorem mv_pt_new {m : List (Int × Option Int)} {k : Int} {v : Option Int} (h : lk m k = none) (r : Int) : cR (mv (pt m k v)) r = cR (mv m) r + one v r := by
  rw [pt_new h]; simp [mv, cR_app, cR]
theorem mv_dr : ∀ {m : List (Int × Option Int)} {k : Int} {v : Option Int}, (ks m).Nodup → lk m k = some v → ∀ r, cR (mv (dr m k)) r + one v r = cR (mv m) r
  | [], _, _, _, h, _ => by simp [lk] at h
  | (j, a) :: l, k, v, nd, h, r => by
    have nd' : j ∉ ks l ∧ (ks l).Nodup := List.nodup_cons.mp nd
    by_cases e : j = k
    · subst e
      simp [lk] at h; subst h
      have e2 : dr ((j, a) :: l) j = l := by
        have e3 : dr ((j, a) :: l) j = dr l j := by simp [dr]
        rw [e3, dr_no (not_mem_ks.mp nd'.1)]
      rw [e2]; simp [mv, cR]; omega
    · simp [lk, e] at h
      have := mv_dr nd'.2 h r
      have e2 : dr ((j, a) :: l) k = (j, a) :: dr l k := by simp [dr, e]
      rw [e2]; simp [mv, cR] at this ⊢; omega
theorem lk_mv {m : List (Int × Option Int)} {k : Int} {v : Option Int} (h : lk m k = some v) : v ∈ mv m := List.mem_map.mpr ⟨_, lk_mem h, rfl⟩

theorem dr_pt {α : Type} : ∀ (l : List (Int × α)) (k : Int) (v : α), dr (pt l k v) k = dr l k
  | [], k, v => by simp [pt, dr]
  | (j, a) :: r, k, v => by
    by_cases e : j = k
    · subst e; simp [pt, dr]
    · have := dr_pt r k v
      simp [pt, e, dr] at this ⊢; exact this
/-! ### the free rooms -/
def allR (rooms : Int) : List Int := (List.range rooms.toNat).map fun (i : Nat) => (1 : Int) + (i : Int)
def freeR (rooms : Int) (fs : Fs) : List Int := (allR rooms).filter fun r => !has fs r
def newRoom (rooms : Int) (fs : Fs) : Int := (freeR rooms fs).headD 0
theorem mem_allR {rooms r : Int} : r ∈ allR rooms ↔ 1 ≤ r ∧ r ≤ rooms := by
  simp only [allR, List.mem_map, List.mem_range]
  constructor
  · rintro ⟨i, h, e⟩; omega
  · intro h; exact ⟨(r - 1).toNat, by omega, by omega⟩
theorem has_false {α : Type} {l : List (Int × α)} {k : Int} : has l k = false ↔ lk l k = none := by
  unfold has; cases lk l k <;> simp
theorem has_true {α : Type} {l : List (Int × α)} {k : Int} : has l k = true ↔ ∃ v, lk l k = some v := by
  unfold has; cases lk l k <;> simp
theorem mem_freeR {rooms r : Int} {fs : Fs} : r ∈ freeR rooms fs ↔ (1 ≤ r ∧ r ≤ rooms) ∧ lk fs r = none := by
  simp only [freeR, List.mem_filter, mem_allR, Bool.not_eq_true', has_false]
theorem allR_sorted (rooms : Int) : (allR rooms).Pairwise (· < ·) := by
  unfold allR
  rw [List.pairwise_map]
  exact List.pairwise_lt_range.imp fun h => by omega
theorem freeR_sorted (rooms : Int) (fs : Fs) : (freeR rooms fs).Pairwise (· < ·) := (allR_sorted rooms).filter _
theorem freeR_len {rooms : Int} {fs : Fs} (h0 : 0 ≤ rooms) (nd : (ks fs).Nodup) (rng : ∀ r ∈ ks fs, 1 ≤ r ∧ r ≤ rooms) : ((freeR rooms fs).length : Int) = rooms - fs.length := by
  have nda : (allR rooms).Nodup := (allR_sorted rooms).imp fun h => by omega
  have la : (allR rooms).length = rooms.toNat := by simp [allR]
  have ndf : (freeR rooms fs).Nodup := nda.filter _
  have a := sub_len (l := allR rooms) (m := freeR rooms fs ++ ks fs) nda fun r hr => by
    rw [List.mem_append]
    cases e : lk fs r with
    | none => exact .inl (mem_freeR.mpr ⟨mem_allR.mp hr, e⟩)
    | some f => exact .inr (mem_ks.mpr ⟨f, e⟩)
  have b := sub_len (l := freeR rooms fs ++ ks fs) (m := allR rooms) (List.nodup_append.mpr ⟨ndf, nd, fun a ha b hb e => by
    subst e
    have := (mem_freeR.mp ha).2
    exact not_mem_ks.mpr this hb⟩) fun r hr => by
    rcases List.mem_append.mp hr with e | e
    · exact mem_allR.mpr (mem_freeR.mp e).1
    · exact mem_allR.mpr (rng r e)
  rw [la, List.length_append] at a
  rw [la, List.length_append] at b
  have k : (ks fs).length = fs.length := by simp [ks]
  omega
theorem min_head {l : List Int} (s : l.Pairwise (· < ·)) {m : Int} (h : m ∈ l) (hm : ∀ x ∈ l, m ≤ x) : m = l.headD 0 := by
  cases l with
  | nil => simp at h
  | cons a t =>
    have s' := List.pairwise_cons.mp s
    rcases List.mem_cons.mp h with e | e
    · simpa using e
    · have := s'.1 m e
      have := hm a List.mem_cons_self
      omega
theorem newRoom_in {rooms : Int} {fs : Fs} (nd : (ks fs).Nodup) (rng : ∀ r ∈ ks fs, 1 ≤ r ∧ r ≤ rooms) (h : (fs.length : Int) + 1 ≤ rooms) : newRoom rooms fs ∈ freeR rooms fs := by
  have := freeR_len (by omega) nd rng
  unfold newRoom
  cases e : freeR rooms fs with
  | nil => rw [e] at this; simp at this; omega
  | cons a t => simp

/-! ### a new frame -/
theorem path_pt_new {fs : Fs} {r : Int} {v : Fr} (n : lk fs r = none) {x : Option Int} {l : List Int} (p : Path fs x l) : Path (pt fs r v) x l :=
  p.congr fun k _ f e => ⟨f, by rw [lk_pt_ne (fun z => by rw [z, n] at e; cases e)]; exact e, rfl⟩
theorem WF.new {fs : Fs} {c : Int → Nat} {b : Option Int} {r : Int} (sl : List Int) (h : WF fs (fun k => c k + one b k)) (n : lk fs r = none) : WF (pt fs r ⟨b, sl, 1⟩) (fun k => c k + one (some r) k) := by
  have c0 : c r = 0 := by
    cases e : c r with
    | zero => rfl
    | succ m =>
      obtain ⟨f, hf⟩ := h.cin r (by show 1 ≤ c r + one b r; omega)
      rw [n] at hf; cases hf
  have bn : b ≠ some r := fun z => by
    obtain ⟨f, hf⟩ := h.cin r (by show 1 ≤ c r + one b r; rw [z, one_same]; omega)
    rw [n] at hf; cases hf
  have b0 : cb fs r = 0 := by
    cases e : cb fs r with
    | zero => rfl
    | succ m =>
      obtain ⟨k, f, h1, h2⟩ := cb_pos h.nd (show 1 ≤ cb fs r by omega)
      obtain ⟨g, hg⟩ := h.bin k f r h1 h2
      rw [n] at hg; cases hg
  refine ⟨nd_pt h.nd, fun k g hk => ?_, fun k g hk => ?_, fun k hk => ?_, fun k g y hk hb => ?_, fun k g hk => ?_⟩
  · rw [cb_pt_new n]
    by_cases z : k = r
    · subst z; rw [lk_pt_same] at hk; cases hk
      show (1 : Int) = ((c k + one (some k) k + (cb fs k + one b k) : Nat) : Int)
      rw [one_same, one_ne bn, c0, b0]; rfl
    · rw [lk_pt_ne z] at hk
      have := h.nb k g hk
      have this : g.needs = ((c k + one b k + cb fs k : Nat) : Int) := this
      show g.needs = ((c k + one (some r) k + (cb fs k + one b k) : Nat) : Int)
      rw [one_ne (fun w => z (Option.some.inj w).symm)]
      omega
  · by_cases z : k = r
    · subst z; rw [lk_pt_same] at hk; cases hk; exact Int.le_refl _
    · rw [lk_pt_ne z] at hk; exact h.pos k g hk
  · by_cases z : k = r
    · subst z; exact ⟨_, lk_pt_same _ _ _⟩
    · have hk' : 1 ≤ c k + one (some r) k := hk
      rw [one_ne (fun w => z (Option.some.inj w).symm)] at hk'
      rw [lk_pt_ne z]
      exact h.cin k (by show 1 ≤ c k + one b k; omega)
  · by_cases z : k = r
    · subst z; rw [lk_pt_same] at hk; cases hk
      have hb' : b = some y := hb
      obtain ⟨g, hg⟩ := h.cin y (by show 1 ≤ c y + one b y; rw [hb', one_same]; omega)
      exact ⟨g, by rw [lk_pt_ne (fun w => by rw [w, n] at hg; cases hg)]; exact hg⟩
    · rw [lk_pt_ne z] at hk
      obtain ⟨g', hg⟩ := h.bin k g y hk hb
      exact ⟨g', by rw [lk_pt_ne (fun w => by rw [w, n] at hg; cases hg)]; exact hg⟩
  · by_cases z : k = r
    · subst z; rw [lk_pt_same] at hk; cases hk
      have pb := h.path b fun y hy => h.cin y (by show 1 ≤ c y + one b y; rw [hy, one_same]; omega)
      exact ⟨_, .cons (lk_pt_same _ _ _) (path_pt_new n pb)⟩
    · rw [lk_pt_ne z] at hk
      obtain ⟨l, hl⟩ := h.fin k g hk
      exact ⟨l, path_pt_new n hl⟩

/-! ### the values of a pile -/
def sl (fs : Fs) (r : Int) : List Int := match lk fs r with
  | some f => f.slots
  | none => []
def vl (fs : Fs) (x : Option Int) : List (List Int) := (path fs x).map (sl fs)
theorem sl_of {fs : Fs} {r : Int} {f : Fr} (h : lk fs r = some f) : sl fs r = f.slots := by simp [sl, h]
theorem vl_congr {fs gs : Fs} {x : Option Int} {l : List Int} (p : Path fs x l) (h : ∀ r ∈ l, ∀ f, lk fs r = some f → ∃ g, lk gs r = some g ∧ g.below = f.below ∧ g.slots = f.slots) : path gs x = l ∧ vl gs x = vl fs x := by
  have q : Path gs x l := p.congr fun r hr f e => by
    obtain ⟨g, h1, h2, _⟩ := h r hr f e
    exact ⟨g, h1, h2⟩
  refine ⟨q.eq, ?_⟩
  unfold vl
  rw [q.eq, p.eq]
  refine List.map_congr_left fun r hr => ?_
  obtain ⟨f, hf⟩ := p.in r hr
  obtain ⟨g, h1, _, h3⟩ := h r hr f hf
  rw [sl_of hf, sl_of h1, h3]
theorem vl_sub {fs gs : Fs} {c : Int → Nat} (h : WF gs c) (s : Sub gs fs) (x : Option Int) (hx : ∀ r, x = some r → ∃ f, lk gs r = some f) : path gs x = path fs x ∧ vl gs x = vl fs x := by
  have p := h.path x hx
  have e := (p.up s).eq
  refine ⟨e.symm, ?_⟩
  unfold vl
  rw [e]
  refine List.map_congr_left fun r hr => ?_
  obtain ⟨g, hg⟩ := p.in r hr
  obtain ⟨f, h1, _, h3⟩ := s r g hg
  rw [sl_of hg, sl_of h1, h3]
theorem vl_nil (fs : Fs) : vl fs none = [] := by
  unfold vl; rw [Path.eq .nil]; rfl
theorem vl_cons {fs : Fs} {c : Int → Nat} (h : WF fs c) {r : Int} {f : Fr} (e : lk fs r = some f) : path fs (some r) = r :: path fs f.below ∧ vl fs (some r) = f.slots :: vl fs f.below := by
  have p := h.path f.below fun b hb => h.bin r f b e hb
  have q := (Path.cons e p).eq
  refine ⟨q, ?_⟩
  unfold vl
  rw [q, List.map_cons, sl_of e]

/-! ### deeds -/
def hOk (W : Wd) (h : Int) : Prop := 0 ≤ h ∧ h < (W.tops.length : Int)
instance (W : Wd) (h : Int) : Decidable (hOk W h) := inferInstanceAs (Decidable (_ ∧ _))
def top (W : Wd) (h : Int) : Option Int := W.tops.getD h.toNat none
def turnTo (W : Wd) (h : Int) (x : Option Int) : Wd := { W with frames := leave (wantF W.frames x) (top W h), tops := W.tops.set h.toNat x }
def doCall (W : Wd) (h : Int) (vs : List Int) : Except Er (Int × Wd) :=
  if ¬ hOk W h then .error .hand
  else if 3 < vs.length then .error .slot
  else if W.rooms < (W.frames.length : Int) + 1 then .error .room
  else .ok (newRoom W.rooms W.frames, { W with frames := pt W.frames (newRoom W.rooms W.frames) ⟨top W h, vs, 1⟩, tops := W.tops.set h.toNat (some (newRoom W.rooms W.frames)) })
def doBack (W : Wd) (h : Int) : Except Er (List Int × Wd) :=
  if ¬ hOk W h then .error .hand
  else match top W h with
    | none => .error .call
    | some r => match lk W.frames r with
      | none => .error .call
      | some f => .ok (f.slots, turnTo W h f.below)
def doBranch (W : Wd) (h o : Int) : Except Er Wd :=
  if ¬ hOk W h then .error .hand
  else if ¬ hOk W o then .error .hand
  else .ok (turnTo W o (top W h))
def doKeep (W : Wd) (h : Int) : Except Er (Int × Wd) :=
  if ¬ hOk W h then .error .hand
  else .ok (W.many, { W with frames := wantF W.frames (top W h), marks := pt W.marks W.many (top W h), many := W.many + 1 })
def doLeap (W : Wd) (h p : Int) : Except Er Wd :=
  if ¬ hOk W h then .error .hand
  else match lk W.marks p with
    | none => .error .place
    | some x => .ok (turnTo W h x)
def doForget (W : Wd) (p : Int) : Except Er Wd :=
  match lk W.marks p with
  | none => .error .place
  | some x => .ok { W with frames := leave W.frames x, marks := dr W.marks p }

section
variable {W : Wd}
theorem top_mem {h : Int} (k : hOk W h) : top W h ∈ W.tops := by
  obtain ⟨a, b⟩ := k
  have : h.toNat < W.tops.length := by omega
  unfold top
  rw [List.getD_eq_getElem?_getD, List.getElem?_eq_getElem this]
  exact List.getElem_mem this
theorem WFW.ref (F : WFW W) {x : Option Int} (hx : x ∈ W.tops ∨ x ∈ mv W.marks) : ∀ r, x = some r → ∃ f, lk W.frames r = some f := fun r e => by
  subst e
  refine F.wf.cin r ?_
  unfold cW
  rcases hx with h | h
  · have := cR_ge h; omega
  · have := cR_ge h; omega
theorem WFW.topIn (F : WFW W) (h : Int) : ∀ r, top W h = some r → ∃ f, lk W.frames r = some f := fun r e => by
  unfold top at e
  rw [List.getD_eq_getElem?_getD] at e
  cases q : W.tops[h.toNat]? with
  | none => rw [q] at e; cases e
  | some x =>
    rw [q] at e
    have : x ∈ W.tops := List.mem_of_getElem? q
    exact F.ref (.inl this) r e
theorem WFW.len (F : WFW W) : W.frames.length ≤ 40 := by
  have := freeR_len (by have := F.r1; omega) F.wf.nd F.rng
  have := F.r40
  omega
/-- the other piles, and the kept ones -/
def vals (W : Wd) : List (List (List Int)) := W.tops.map (vl W.frames)
def kept (W : Wd) : List (Int × List (List Int)) := W.marks.map fun q => (q.1, vl W.frames q.2)
theorem set_count {h : Int} (k : hOk W h) (x : Option Int) (r : Int) : cR (W.tops.set h.toNat x) r + one (top W h) r = cR W.tops r + one x r :=
  cR_set W.tops h.toNat x r (by obtain ⟨a, b⟩ := k; omega)
theorem mem_set {α : Type} {l : List α} {i : Nat} {x y : α} (h : y ∈ l.set i x) : y = x ∨ y ∈ l := by
  rcases List.mem_or_eq_of_mem_set h with z | z
  · exact .inr z
  · exact .inl z
/-- what turning to x does -/
structure Turned (W W' : Wd) (h : Int) (x : Option Int) : Prop where
  wfw : WFW W'
  lv : Leave (wantF W.frames x) (top W h) W'.frames
  sub : Sub W'.frames W.frames
  vals : vals W' = (vals W).set h.toNat (vl W.frames x)
  kept : kept W' = kept W
theorem turnTo_ok (F : WFW W) {h : Int} (k : hOk W h) {x : Option Int} (hx : ∀ r, x = some r → ∃ f, lk W.frames r = some f) : Turned W (turnTo W h x) h x := by
  have w1 := F.wf.want x hx
  have e1 : ∀ r, cW W r + one x r = cW (turnTo W h x) r + one (top W h) r := fun r => by
    have := set_count k x r
    show cR W.tops r + cR (mv W.marks) r + one x r = cR (W.tops.set h.toNat x) r + cR (mv W.marks) r + one (top W h) r
    omega
  obtain ⟨gs, l1, w2, s1⟩ := WF.leave _ rfl (w1.ext e1)
  have ndw : (ks (wantF W.frames x)).Nodup := by rw [ks_want]; exact F.wf.nd
  have eg : leave (wantF W.frames x) (top W h) = gs := l1.eq ndw
  have s2 : Sub gs W.frames := s1.trans (Sub.want _ _)
  have ef : (turnTo W h x).frames = gs := eg
  have F' : WFW (turnTo W h x) := by
    refine ⟨by rw [ef]; exact w2, F.r1, F.r40, fun r hr => ?_, F.ms, F.mr, F.m0, ?_, ?_⟩
    · rw [ef] at hr
      obtain ⟨g, hg⟩ := mem_ks.mp hr
      obtain ⟨f, hf, _⟩ := s2 r g hg
      exact F.rng r (mem_ks.mpr ⟨f, hf⟩)
    · show 1 ≤ (W.tops.set h.toNat x).length; rw [List.length_set]; exact F.h1
    · show (W.tops.set h.toNat x).length ≤ 6; rw [List.length_set]; exact F.h6
  have vs : ∀ y, y ∈ (turnTo W h x).tops ∨ y ∈ mv (turnTo W h x).marks → vl (turnTo W h x).frames y = vl W.frames y := fun y hy => by
    rw [ef]
    exact (vl_sub w2 s2 y (by have := F'.ref hy; rw [ef] at this; exact this)).2
  refine ⟨F', by rw [ef]; exact l1, by rw [ef]; exact s2, ?_, ?_⟩
  · show (W.tops.set h.toNat x).map (vl (turnTo W h x).frames) = (W.tops.map (vl W.frames)).set h.toNat (vl W.frames x)
    have z : List.map (vl (turnTo W h x).frames) (W.tops.set h.toNat x) = List.map (vl W.frames) (W.tops.set h.toNat x) := List.map_congr_left fun y hy => vs y (.inl hy)
    rw [z, List.map_set]
  · show W.marks.map _ = W.marks.map _
    refine List.map_congr_left fun q hq => ?_
    rw [vs q.2 (.inr (List.mem_map.mpr ⟨q, hq, rfl⟩))]
theorem doCall_ok (F : WFW W) {h : Int} {vs : List Int} {r : Int} {W' : Wd} (e : doCall W h vs = .ok (r, W')) : hOk W h ∧ WFW W' ∧ vals W' = (vals W).set h.toNat (vs :: vl W.frames (top W h)) ∧ kept W' = kept W ∧ lk W.frames r = none ∧ W'.many = W.many ∧ vs.length ≤ 3 := by
  unfold doCall at e
  split at e
  · cases e
  rename_i k
  have k : hOk W h := Decidable.byContradiction k
  split at e
  · cases e
  rename_i k3
  split at e
  · cases e
  rename_i kr
  have e' := Except.ok.inj e
  have er : newRoom W.rooms W.frames = r := congrArg Prod.fst e'
  have ew := congrArg Prod.snd e'
  have nin := newRoom_in F.wf.nd F.rng (show (W.frames.length : Int) + 1 ≤ W.rooms by omega)
  rw [er] at nin ew
  obtain ⟨nr, nn⟩ := mem_freeR.mp nin
  subst ew
  have hw : WF W.frames (fun q => cR (W.tops.set h.toNat none) q + cR (mv W.marks) q + one (top W h) q) := F.wf.ext fun q => by
    have := set_count k none q
    rw [one_none] at this
    show cR W.tops q + cR (mv W.marks) q = _
    omega
  have hn := hw.new vs nn
  have hset : ∀ q, cR (W.tops.set h.toNat (some r)) q = cR (W.tops.set h.toNat none) q + one (some r) q := fun q => by
    have a := set_count k none q
    have b := set_count k (some r) q
    rw [one_none] at a
    omega
  have F' : WFW { W with frames := pt W.frames r ⟨top W h, vs, 1⟩, tops := W.tops.set h.toNat (some r) } := by
    refine ⟨hn.ext fun q => ?_, F.r1, F.r40, fun q hq => ?_, F.ms, F.mr, F.m0, ?_, ?_⟩
    · show _ = cR (W.tops.set h.toNat (some r)) q + cR (mv W.marks) q
      rw [hset]; omega
    · rw [show ks (pt W.frames r ⟨top W h, vs, 1⟩) = ks W.frames ++ [r] from ks_pt_new nn] at hq
      rcases List.mem_append.mp hq with z | z
      · exact F.rng q z
      · have : q = r := by simpa using z
        rw [this]; exact nr
    · show 1 ≤ (W.tops.set h.toNat (some r)).length; rw [List.length_set]; exact F.h1
    · show (W.tops.set h.toNat (some r)).length ≤ 6; rw [List.length_set]; exact F.h6
  have old : ∀ y, (∀ q, y = some q → ∃ f, lk W.frames q = some f) → vl (pt W.frames r ⟨top W h, vs, 1⟩) y = vl W.frames y := fun y hy =>
    (vl_congr (F.wf.path y hy) fun q _ f e => ⟨f, by rw [lk_pt_ne (fun z => by rw [z, nn] at e; cases e)]; exact e, rfl, rfl⟩).2
  refine ⟨k, F', ?_, ?_, nn, rfl, by omega⟩
  · show (W.tops.set h.toNat (some r)).map (vl (pt W.frames r ⟨top W h, vs, 1⟩)) = (W.tops.map (vl W.frames)).set h.toNat (vs :: vl W.frames (top W h))
    rw [List.map_set, (vl_cons hn (lk_pt_same _ _ _)).2, old _ (F.topIn h)]
    rw [List.map_congr_left (g := vl W.frames) fun y hy => old y (F.ref (.inl hy))]
  · show W.marks.map _ = W.marks.map _
    refine List.map_congr_left fun q hq => ?_
    rw [old q.2 (F.ref (.inr (List.mem_map.mpr ⟨q, hq, rfl⟩)))]
theorem doBack_ok (F : WFW W) {h : Int} {vs : List Int} {W' : Wd} (e : doBack W h = .ok (vs, W')) : hOk W h ∧ WFW W' ∧ (∃ t, vl W.frames (top W h) = vs :: t ∧ vals W' = (vals W).set h.toNat t) ∧ kept W' = kept W ∧ W'.many = W.many ∧ ∃ x, Turned W W' h x := by
  unfold doBack at e
  split at e
  · cases e
  rename_i k
  have k : hOk W h := Decidable.byContradiction k
  split at e
  · cases e
  rename_i r hr
  split at e
  · cases e
  rename_i f hf
  have e' := Except.ok.inj e
  have e1 : f.slots = vs := congrArg Prod.fst e'
  have e2 : turnTo W h f.below = W' := congrArg Prod.snd e'
  subst e1 e2
  have T := turnTo_ok F k (x := f.below) fun b hb => F.wf.bin r f b hf hb
  refine ⟨k, T.wfw, ⟨vl W.frames f.below, ?_, T.vals⟩, T.kept, rfl, _, T⟩
  rw [hr]; exact (vl_cons F.wf hf).2
theorem doBranch_ok (F : WFW W) {h o : Int} {W' : Wd} (e : doBranch W h o = .ok W') : hOk W h ∧ hOk W o ∧ WFW W' ∧ vals W' = (vals W).set o.toNat (vl W.frames (top W h)) ∧ kept W' = kept W ∧ W'.many = W.many := by
  unfold doBranch at e
  split at e
  · cases e
  rename_i k
  split at e
  · cases e
  rename_i k2
  have k : hOk W h := Decidable.byContradiction k
  have k2 : hOk W o := Decidable.byContradiction k2
  have e2 := Except.ok.inj e
  subst e2
  have T := turnTo_ok F k2 (x := top W h) (F.topIn h)
  exact ⟨k, k2, T.wfw, T.vals, T.kept, rfl⟩
theorem doLeap_ok (F : WFW W) {h p : Int} {W' : Wd} (e : doLeap W h p = .ok W') : hOk W h ∧ ∃ x, lk W.marks p = some x ∧ WFW W' ∧ vals W' = (vals W).set h.toNat (vl W.frames x) ∧ kept W' = kept W ∧ W'.many = W.many := by
  unfold doLeap at e
  split at e
  · cases e
  rename_i k
  have k : hOk W h := Decidable.byContradiction k
  split at e
  · cases e
  rename_i x hx
  have e2 := Except.ok.inj e
  subst e2
  have T := turnTo_ok F k (x := x) (F.ref (.inr (lk_mv hx)))
  exact ⟨k, x, hx, T.wfw, T.vals, T.kept, rfl⟩
theorem doKeep_ok (F : WFW W) {h p : Int} {W' : Wd} (e : doKeep W h = .ok (p, W')) : hOk W h ∧ p = W.many ∧ lk W.marks p = none ∧ WFW W' ∧ vals W' = vals W ∧ kept W' = kept W ++ [(p, vl W.frames (top W h))] ∧ W'.many = W.many + 1 := by
  unfold doKeep at e
  split at e
  · cases e
  rename_i k
  have k : hOk W h := Decidable.byContradiction k
  have e' := Except.ok.inj e
  have e1 : W.many = p := congrArg Prod.fst e'
  have e2 := congrArg Prod.snd e'
  subst e1
  simp only at e2
  subst e2
  have nm : lk W.marks W.many = none := by
    rw [← not_mem_ks]; intro h; have := F.mr _ h; omega
  have w1 := F.wf.want (top W h) (F.topIn h)
  have s1 := Sub.want W.frames (top W h)
  have F' : WFW { W with frames := wantF W.frames (top W h), marks := pt W.marks W.many (top W h), many := W.many + 1 } := by
    refine ⟨w1.ext fun r => ?_, F.r1, F.r40, fun r hr => ?_, ?_, fun q hq => ?_, ?_, F.h1, F.h6⟩
    · show cR W.tops r + cR (mv W.marks) r + one (top W h) r = cR W.tops r + cR (mv (pt W.marks W.many (top W h))) r
      rw [mv_pt_new nm]; omega
    · rw [show ks (wantF W.frames (top W h)) = ks W.frames from ks_want _ _] at hr
      exact F.rng r hr
    · show (ks (pt W.marks W.many (top W h))).Pairwise (· < ·)
      rw [ks_pt_new nm, List.pairwise_append]
      refine ⟨F.ms, by simp, fun a ha b hb => ?_⟩
      have : b = W.many := by simpa using hb
      have := F.mr a ha
      omega
    · rw [show ks (pt W.marks W.many (top W h)) = ks W.marks ++ [W.many] from ks_pt_new nm] at hq
      show 0 ≤ q ∧ q < W.many + 1
      have := F.m0
      rcases List.mem_append.mp hq with z | z
      · have := F.mr q z; omega
      · have : q = W.many := by simpa using z
        omega
    · show 0 ≤ W.many + 1
      have := F.m0
      omega
  have same : ∀ y, (∀ q, y = some q → ∃ f, lk W.frames q = some f) → vl (wantF W.frames (top W h)) y = vl W.frames y := fun y hy =>
    (vl_congr (F.wf.path y hy) fun q _ f e => want_in e).2
  refine ⟨k, rfl, nm, F', ?_, ?_, rfl⟩
  · show W.tops.map _ = W.tops.map _
    exact List.map_congr_left fun y hy => same y (F.ref (.inl hy))
  · show (pt W.marks W.many (top W h)).map _ = W.marks.map _ ++ _
    rw [pt_new nm, List.map_append]
    congr 1
    · refine List.map_congr_left fun q hq => ?_
      rw [same q.2 (F.ref (.inr (List.mem_map.mpr ⟨q, hq, rfl⟩)))]
    · simp only [List.map_cons, List.map_nil]
      rw [same _ (F.topIn h)]
theorem doForget_ok (F : WFW W) {p : Int} {W' : Wd} (e : doForget W p = .ok W') : ∃ x, lk W.marks p = some x ∧ Leave W.frames x W'.frames ∧ WFW W' ∧ vals W' = vals W ∧ kept W' = dr (kept W) p ∧ W'.many = W.many := by
  unfold doForget at e
  split at e
  · cases e
  rename_i x hx
  have e2 := Except.ok.inj e
  have e1 : ∀ r, cW W r = (cR W.tops r + cR (mv (dr W.marks p)) r) + one x r := fun r => by
    have := mv_dr F.ndm hx r
    show cR W.tops r + cR (mv W.marks) r = _
    omega
  obtain ⟨gs, l1, w2, s1⟩ := WF.leave _ rfl (F.wf.ext e1)
  have eg : leave W.frames x = gs := l1.eq F.wf.nd
  rw [eg] at e2
  subst e2
  have F' : WFW { W with frames := gs, marks := dr W.marks p } := by
    refine ⟨w2, F.r1, F.r40, fun r hr => ?_, by rw [show ks (dr W.marks p) = _ from ks_dr _ _]; exact F.ms.filter _, fun q hq => ?_, F.m0, F.h1, F.h6⟩
    · obtain ⟨g, hg⟩ := mem_ks.mp hr
      obtain ⟨f, hf, _⟩ := s1 r g hg
      exact F.rng r (mem_ks.mpr ⟨f, hf⟩)
    · rw [show ks (dr W.marks p) = _ from ks_dr _ _] at hq
      exact F.mr q (List.mem_filter.mp hq).1
  have vs : ∀ y, y ∈ W.tops ∨ y ∈ mv (dr W.marks p) → vl gs y = vl W.frames y := fun y hy =>
    (vl_sub w2 s1 y (F'.ref hy)).2
  refine ⟨x, hx, l1, F', ?_, ?_, rfl⟩
  · show W.tops.map _ = W.tops.map _
    exact List.map_congr_left fun y hy => vs y (.inl hy)
  · show (dr W.marks p).map _ = dr (W.marks.map _) p
    have h1 : (dr W.marks p).map (fun q => (q.1, vl gs q.2)) = (dr W.marks p).map (fun q => (q.1, vl W.frames q.2)) := List.map_congr_left fun q hq => by
      rw [vs q.2 (.inr (List.mem_map.mpr ⟨q, hq, rfl⟩))]
    have h2 : dr (W.marks.map (fun q => (q.1, vl W.frames q.2))) p = (dr W.marks p).map (fun q => (q.1, vl W.frames q.2)) := by
      unfold dr; rw [List.filter_map]; rfl
    rw [h2]; exact h1
end
end SW
end
section
/-! SwPut: a value put into a call, in place or by copies. -/
namespace SW
def nd (fs : Fs) (r : Int) : Int := match lk fs r with
  | some f => f.needs
  | none => 0
theorem nd_of {fs : Fs} {r : Int} {f : Fr} (h : lk fs r = some f) : nd fs r = f.needs := by simp [nd, h]
def below (fs : Fs) (r : Int) : Option Int := match lk fs r with
  | some f => f.below
  | none => none
theorem below_of {fs : Fs} {r : Int} {f : Fr} (h : lk fs r = some f) : below fs r = f.below := by simp [below, h]
/-- the depths that others need -/
def sh (fs : Fs) (q : List Int) : List Nat := (List.range q.length).filter fun i => decide (1 < nd fs (q.getD i 0))
theorem sh_none {fs : Fs} {q : List Int} (h : (sh fs q).head? = none) : ∀ i, i < q.length → nd fs (q.getD i 0) ≤ 1 := fun i hi => by
  have e : sh fs q = [] := List.head?_eq_none_iff.mp h
  unfold sh at e
  rw [List.filter_eq_nil_iff] at e
  have := e i (List.mem_range.mpr hi)
  simp only [decide_eq_true_eq] at this
  omega
theorem sh_some {fs : Fs} {q : List Int} {i : Nat} (h : (sh fs q).head? = some i) : i < q.length ∧ 1 < nd fs (q.getD i 0) ∧ ∀ j, j < i → nd fs (q.getD j 0) ≤ 1 := by
  have hm : i ∈ sh fs q := List.mem_of_head? h
  have hs : (sh fs q).Pairwise (· < ·) := List.pairwise_lt_range.filter _
  unfold sh at hm
  obtain ⟨a, b⟩ := List.mem_filter.mp hm
  refine ⟨List.mem_range.mp a, by simpa using b, fun j hj => ?_⟩
  apply Decidable.byContradiction
  intro hc
  have jm : j ∈ sh fs q := List.mem_filter.mpr ⟨List.mem_range.mpr (by have := List.mem_range.mp a; omega), by simp only [decide_eq_true_eq]; omega⟩
  cases e : sh fs q with
  | nil => rw [e] at jm; simp at jm
  | cons x t =>
    rw [e] at h jm hs
    have hx : x = i := by simpa using h
    subst hx
    rcases List.mem_cons.mp jm with z | z
    · omega
    · have := (List.pairwise_cons.mp hs).1 j z; omega
/-- the copies, the deepest first: (frames, the room of the last copy, the rooms) -/
def copyL (rooms : Int) : Fs → Option Int → List Int → Fs × Option Int × List Int
  | fs, b, [] => (fs, b, [])
  | fs, b, o :: os =>
    let t := copyL rooms (pt fs (newRoom rooms fs) ⟨b, sl fs o, 1⟩) (some (newRoom rooms fs)) os
    (t.1, t.2.1, newRoom rooms fs :: t.2.2)
def setSlot (fs : Fs) (r : Int) (s : Int) (v : Int) : Fs := match lk fs r with
  | none => fs
  | some f => pt fs r { f with slots := f.slots.set s.toNat v }
def setBelow (fs : Fs) (r : Int) (b : Option Int) : Fs := match lk fs r with
  | none => fs
  | some f => pt fs r { f with below := b }
def doWay (W : Wd) (h d : Int) : Except Er (List Int × Option Nat) :=
  if ¬ hOk W h then .error .hand
  else if ¬ (0 ≤ d ∧ d < ((path W.frames (top W h)).length : Int)) then .error .call
  else .ok ((path W.frames (top W h)).take (d.toNat + 1), (sh W.frames ((path W.frames (top W h)).take (d.toNat + 1))).head?)
def doPrice (W : Wd) (h d : Int) : Except Er Int := match doWay W h d with
  | .error e => .error e
  | .ok (_, none) => .ok 0
  | .ok (_, some i) => .ok (d - i + 1)
/-- the copies of q from depth i on, for hand h -/
def copied (W : Wd) (h : Int) (q : List Int) (i : Nat) : Int × Wd :=
  let b := below W.frames (q.getD (q.length - 1) 0)
  let t := copyL W.rooms (wantF W.frames b) b (q.drop i).reverse
  let fs3 := leave t.1 (some (q.getD i 0))
  (t.2.2.headD 0, if i = 0 then { W with frames := fs3, tops := W.tops.set h.toNat t.2.1, made := W.made + t.2.2.length }
    else { W with frames := setBelow fs3 (q.getD (i - 1) 0) t.2.1, made := W.made + t.2.2.length })
def doPut (W : Wd) (h d s v : Int) : Except Er (Int × Wd) := match doWay W h d with
  | .error e => .error e
  | .ok (q, o) =>
    if ¬ (0 ≤ s ∧ s < ((sl W.frames (q.getD d.toNat 0)).length : Int)) then .error .slot
    else match o with
      | none => .ok (0, { W with frames := setSlot W.frames (q.getD d.toNat 0) s v })
      | some i =>
        if W.rooms < (W.frames.length : Int) + (d - i + 1) then .error .room
        else .ok (d - i + 1, { (copied W h q i).2 with frames := setSlot (copied W h q i).2.frames (copied W h q i).1 s v })

/-! ### copies -/
structure Copies (rooms : Int) (c : Int → Nat) (fs : Fs) (b : Option Int) (os : List Int) (t : Fs × Option Int × List Int) : Prop where
  wf : WF t.1 (fun k => c k + one t.2.1 k)
  len : t.2.2.length = os.length
  keys : ks t.1 = ks fs ++ t.2.2
  rng : ∀ r ∈ t.2.2, 1 ≤ r ∧ r ≤ rooms
  fresh : ∀ r ∈ t.2.2, lk fs r = none
  old : ∀ r f, lk fs r = some f → lk t.1 r = some f
  slots : t.2.2.map (sl t.1) = os.map (sl fs)
  path : ∀ m, Path fs b m → Path t.1 t.2.1 (t.2.2.reverse ++ m)
theorem copyL_ok {rooms : Int} {c : Int → Nat} : ∀ (os : List Int) {fs : Fs} {b : Option Int}, WF fs (fun k => c k + one b k) → (∀ r ∈ ks fs, 1 ≤ r ∧ r ≤ rooms) → (∀ o ∈ os, ∃ f, lk fs o = some f) → (fs.length : Int) + os.length ≤ rooms →
    Copies rooms c fs b os (copyL rooms fs b os)
  | [], fs, b, h, rng, hos, hl => ⟨h, rfl, by simp [copyL], by simp [copyL], by simp [copyL], fun _ _ e => e, by simp [copyL], fun m p => by simpa [copyL] using p⟩
  | o :: os, fs, b, h, rng, hos, hl => by
    have hl' : (fs.length : Int) + (os.length + 1) ≤ rooms := by simpa using hl
    have nin := newRoom_in h.nd rng (show (fs.length : Int) + 1 ≤ rooms by omega)
    obtain ⟨nr, nn⟩ := mem_freeR.mp nin
    have hn := h.new (sl fs o) nn
    generalize er : newRoom rooms fs = r at nr nn hn nin
    have ek : ks (pt fs r ⟨b, sl fs o, 1⟩) = ks fs ++ [r] := ks_pt_new nn
    have lold : ∀ k f, lk fs k = some f → lk (pt fs r ⟨b, sl fs o, 1⟩) k = some f := fun k f e => by
      rw [lk_pt_ne (fun z => by rw [z, nn] at e; cases e)]; exact e
    have ih := copyL_ok os (fs := pt fs r ⟨b, sl fs o, 1⟩) (b := some r) hn (fun k hk => by
        rw [ek] at hk
        rcases List.mem_append.mp hk with z | z
        · exact rng k z
        · have : k = r := by simpa using z
          rw [this]; exact nr)
      (fun o' ho => by
        obtain ⟨f, hf⟩ := hos o' (List.mem_cons_of_mem _ ho)
        exact ⟨f, lold _ _ hf⟩)
      (by rw [len_pt_new nn]; omega)
    have et : copyL rooms fs b (o :: os) = ((copyL rooms (pt fs r ⟨b, sl fs o, 1⟩) (some r) os).1, (copyL rooms (pt fs r ⟨b, sl fs o, 1⟩) (some r) os).2.1, r :: (copyL rooms (pt fs r ⟨b, sl fs o, 1⟩) (some r) os).2.2) := by
      subst er; rfl
    rw [et]
    generalize copyL rooms (pt fs r ⟨b, sl fs o, 1⟩) (some r) os = t at ih
    obtain ⟨gs, x, rs⟩ := t
    obtain ⟨i1, i2, i3, i4, i5, i6, i7, i8⟩ := ih
    have slold : ∀ k f, lk fs k = some f → sl (pt fs r ⟨b, sl fs o, 1⟩) k = sl fs k := fun k f e => by rw [sl_of e, sl_of (lold k f e)]
    refine ⟨i1, by simpa using i2, ?_, fun k hk => ?_, fun k hk => ?_, fun k f e => i6 k f (lold k f e), ?_, fun m p => ?_⟩
    · show ks gs = ks fs ++ (r :: rs)
      have i3' : ks gs = ks (pt fs r ⟨b, sl fs o, 1⟩) ++ rs := i3
      rw [i3', ek, List.append_assoc]; rfl
    · rcases List.mem_cons.mp hk with z | z
      · rw [z]; exact nr
      · exact i4 k z
    · rcases List.mem_cons.mp hk with z | z
      · rw [z]; exact nn
      · have := i5 k z
        by_cases e : k = r
        · rw [e]; exact nn
        · rw [lk_pt_ne e] at this; exact this
    · show List.map (sl gs) (r :: rs) = List.map (sl fs) (o :: os)
      have i7' : rs.map (sl gs) = os.map (sl (pt fs r ⟨b, sl fs o, 1⟩)) := i7
      rw [List.map_cons, List.map_cons, i7']
      congr 1
      · rw [sl_of (i6 r _ (lk_pt_same _ _ _))]
      · exact List.map_congr_left fun k hk => by
          obtain ⟨f, hf⟩ := hos k (List.mem_cons_of_mem _ hk)
          exact slold k f hf
    · have := i8 (r :: m) (.cons (lk_pt_same _ _ _) (path_pt_new nn p))
      show Path gs x ((r :: rs).reverse ++ m)
      simpa using this

/-! ### a call stands on another one from now on -/
theorem WF.redirect {fs : Fs} {c : Int → Nat} {b : Option Int} {p q : Int} {fp fq : Fr} {m : List Int} (h : WF fs (fun k => c k + one b k)) (hp : lk fs p = some fp) (hb : fp.below = some q) (hq : lk fs q = some fq) (hn : 1 < fq.needs) (pm : Path fs b m) (np : p ∉ m) (pq : p ≠ q) :
    WF (pt (pt fs q { fq with needs := fq.needs - 1 }) p { fp with below := b }) c := by
  have e1 : ∀ k, cb (pt fs q { fq with needs := fq.needs - 1 }) k = cb fs k := fun k => cb_pt_same (v := { fq with needs := fq.needs - 1 }) hq rfl k
  have hp2 : lk (pt fs q { fq with needs := fq.needs - 1 }) p = some fp := by rw [lk_pt_ne pq]; exact hp
  have nd1 := nd_pt (k := q) (v := { fq with needs := fq.needs - 1 }) h.nd
  have e2 : ∀ k, cb (pt (pt fs q { fq with needs := fq.needs - 1 }) p { fp with below := b }) k + one (some q) k = cb fs k + one b k := fun k => by
    have := cb_pt (v := { fp with below := b }) hp2 k
    rw [e1, hb] at this
    exact this
  have look : ∀ k g, lk (pt (pt fs q { fq with needs := fq.needs - 1 }) p { fp with below := b }) k = some g → ∃ f, lk fs k = some f ∧ g.needs = f.needs - one (some q) k ∧ (k = p → g.below = b) ∧ (k ≠ p → g.below = f.below) := fun k g e => by
    by_cases z : k = p
    · subst z; rw [lk_pt_same] at e; cases e
      refine ⟨fp, hp, ?_, fun _ => rfl, fun z => absurd rfl z⟩
      rw [one_ne (fun w => pq (Option.some.inj w).symm)]; simp
    · rw [lk_pt_ne z] at e
      by_cases w : k = q
      · subst w; rw [lk_pt_same] at e; cases e
        exact ⟨fq, hq, by rw [one_same]; rfl, fun y => absurd y z, fun _ => rfl⟩
      · rw [lk_pt_ne w] at e
        refine ⟨g, e, ?_, fun y => absurd y z, fun _ => rfl⟩
        rw [one_ne (fun y => w (Option.some.inj y).symm)]; simp
  have back : ∀ k f, lk fs k = some f → ∃ g, lk (pt (pt fs q { fq with needs := fq.needs - 1 }) p { fp with below := b }) k = some g := fun k f e => by
    by_cases z : k = p
    · subst z; exact ⟨_, lk_pt_same _ _ _⟩
    · rw [lk_pt_ne z]
      by_cases w : k = q
      · subst w; exact ⟨_, lk_pt_same _ _ _⟩
      · rw [lk_pt_ne w]; exact ⟨f, e⟩
  have keep : ∀ k f, k ≠ p → lk fs k = some f → ∃ g, lk (pt (pt fs q { fq with needs := fq.needs - 1 }) p { fp with below := b }) k = some g ∧ g.below = f.below := fun k f z e => by
    obtain ⟨g, hg⟩ := back k f e
    obtain ⟨f', h1, _, _, h2⟩ := look k g hg
    rw [e] at h1; cases h1
    exact ⟨g, hg, h2 z⟩
  have pm' : Path (pt (pt fs q { fq with needs := fq.needs - 1 }) p { fp with below := b }) b m := pm.congr fun k hk f e => keep k f (fun z => np (by rw [← z]; exact hk)) e
  have paths : ∀ {x : Option Int} {l : List Int}, Path fs x l → ∃ l', Path (pt (pt fs q { fq with needs := fq.needs - 1 }) p { fp with below := b }) x l' := by
    intro x l hl
    induction hl with
    | nil => exact ⟨[], .nil⟩
    | @cons r f l e _ ih =>
      obtain ⟨l', hl'⟩ := ih
      by_cases z : r = p
      · subst z
        exact ⟨_, .cons (lk_pt_same _ _ _) pm'⟩
      · obtain ⟨g, h1, h2⟩ := keep r f z e
        exact ⟨_, .cons h1 (h2 ▸ hl')⟩
  refine ⟨nd_pt nd1, fun k g e => ?_, fun k g e => ?_, fun k hk => ?_, fun k g y e hy => ?_, fun k g e => ?_⟩
  · obtain ⟨f, h1, h2, _⟩ := look k g e
    have a := h.nb k f h1
    have a : f.needs = ((c k + one b k + cb fs k : Nat) : Int) := a
    have d := e2 k
    omega
  · obtain ⟨f, h1, h2, _⟩ := look k g e
    have := h.pos k f h1
    by_cases w : k = q
    · subst w; rw [hq] at h1; cases h1; rw [one_same] at h2; omega
    · rw [one_ne (fun y => w (Option.some.inj y).symm)] at h2; omega
  · obtain ⟨f, hf⟩ := h.cin k (by show 1 ≤ c k + one b k; omega)
    exact back k f hf
  · obtain ⟨f, h1, _, h3, h4⟩ := look k g e
    by_cases z : k = p
    · rw [h3 z] at hy
      obtain ⟨f', hf'⟩ := h.cin y (by show 1 ≤ c y + one b y; rw [hy, one_same]; omega)
      exact back y f' hf'
    · rw [h4 z] at hy
      obtain ⟨f', hf'⟩ := h.bin k f y h1 hy
      exact back y f' hf'
  · obtain ⟨f, h1, _⟩ := look k g e
    obtain ⟨l, hl⟩ := h.fin k f h1
    exact paths hl
/-- the values of a call are others -/
theorem WF.slots {fs : Fs} {c : Int → Nat} {r : Int} {f : Fr} (h : WF fs c) (e : lk fs r = some f) (zs : List Int) : WF (pt fs r { f with slots := zs }) c := by
  have e1 : ∀ k, cb (pt fs r { f with slots := zs }) k = cb fs k := fun k => cb_pt_same (v := { f with slots := zs }) e rfl k
  have look : ∀ k g, lk (pt fs r { f with slots := zs }) k = some g → ∃ f', lk fs k = some f' ∧ g.needs = f'.needs ∧ g.below = f'.below := fun k g hk => by
    by_cases z : k = r
    · subst z; rw [lk_pt_same] at hk; cases hk; exact ⟨f, e, rfl, rfl⟩
    · rw [lk_pt_ne z] at hk; exact ⟨g, hk, rfl, rfl⟩
  have back : ∀ k f', lk fs k = some f' → ∃ g, lk (pt fs r { f with slots := zs }) k = some g ∧ g.below = f'.below := fun k f' hk => by
    by_cases z : k = r
    · subst z; rw [e] at hk; cases hk; exact ⟨_, lk_pt_same _ _ _, rfl⟩
    · exact ⟨f', by rw [lk_pt_ne z]; exact hk, rfl⟩
  refine ⟨nd_pt h.nd, fun k g hk => ?_, fun k g hk => ?_, fun k hk => ?_, fun k g y hk hy => ?_, fun k g hk => ?_⟩
  · obtain ⟨f', h1, h2, _⟩ := look k g hk
    rw [e1, h2]; exact h.nb k f' h1
  · obtain ⟨f', h1, h2, _⟩ := look k g hk
    rw [h2]; exact h.pos k f' h1
  · obtain ⟨f', h1⟩ := h.cin k hk
    obtain ⟨g, h2, _⟩ := back k f' h1
    exact ⟨g, h2⟩
  · obtain ⟨f', h1, _, h3⟩ := look k g hk
    obtain ⟨f'', h4⟩ := h.bin k f' y h1 (h3 ▸ hy)
    obtain ⟨g', h5, _⟩ := back y f'' h4
    exact ⟨g', h5⟩
  · obtain ⟨f', h1, _⟩ := look k g hk
    obtain ⟨l, hl⟩ := h.fin k f' h1
    exact ⟨l, hl.congr fun k' _ f0 e0 => back k' f0 e0⟩
end SW
end
section
/-! SwPut2: a put changes one pile alone. -/
namespace SW
theorem map_set_of {α β : Type} {l : List α} {f g : α → β} {h : Nat} {z : β} (o : ∀ j x, l[j]? = some x → j ≠ h → f x = g x) (e : ∀ x, l[h]? = some x → f x = z) : l.map f = (l.map g).set h z := by
  apply List.ext_getElem?
  intro j
  rw [List.getElem?_set, List.getElem?_map, List.getElem?_map]
  by_cases q : h = j
  · subst q
    rw [if_pos rfl, List.length_map]
    cases x : l[h]? with
    | none =>
      have : ¬ h < l.length := by have := List.getElem?_eq_none_iff.mp x; omega
      simp [this]
    | some a =>
      have : h < l.length := (List.getElem?_eq_some_iff.mp x).1
      simp [this, e a x]
  · rw [if_neg q]
    cases x : l[j]? with
    | none => rfl
    | some a => simp [o j a x (fun w => q w.symm)]
theorem set_map_of {α β : Type} {l : List α} {f g : α → β} {h : Nat} {b : α} (o : ∀ j x, l[j]? = some x → j ≠ h → f x = g x) (e : ∀ x, l[h]? = some x → f b = g x) : (l.set h b).map f = l.map g := by
  apply List.ext_getElem?
  intro j
  rw [List.getElem?_map, List.getElem?_set, List.getElem?_map]
  by_cases q : h = j
  · subst q
    rw [if_pos rfl]
    cases x : l[h]? with
    | none =>
      have : ¬ h < l.length := by have := List.getElem?_eq_none_iff.mp x; omega
      simp [this]
    | some a =>
      have : h < l.length := (List.getElem?_eq_some_iff.mp x).1
      simp [this, e a x]
  · rw [if_neg q]
    cases x : l[j]? with
    | none => rfl
    | some a => simp [o j a x (fun w => q w.symm)]
theorem nodup_ne {l : List Int} (nd : l.Nodup) {i j : Nat} {a b : Int} (h : l[i]? = some a) (k : l[j]? = some b) (n : i ≠ j) : a ≠ b := fun z => by
  subst z
  obtain ⟨ha, hae⟩ := List.getElem?_eq_some_iff.mp h
  obtain ⟨hb, hbe⟩ := List.getElem?_eq_some_iff.mp k
  exact n ((List.getElem_inj (h₀ := ha) (h₁ := hb) nd).mp (by rw [hae, hbe]))
theorem Path.mem_from {fs : Fs} {y : Option Int} {m : List Int} (h : Path fs y m) : ∀ r ∈ m, y = some r ∨ ∃ k ∈ m, ∃ f, lk fs k = some f ∧ f.below = some r := by
  induction h with
  | nil => intro r hr; simp at hr
  | @cons r0 f l e _ ih =>
    intro r hr
    rcases List.mem_cons.mp hr with z | z
    · exact .inl (by rw [z])
    · rcases ih r z with w | ⟨k, hk, g, h1, h2⟩
      · exact .inr ⟨r0, List.mem_cons_self, f, e, w⟩
      · exact .inr ⟨k, List.mem_cons_of_mem _ hk, g, h1, h2⟩
theorem Path.head {fs : Fs} {x : Option Int} {l : List Int} (h : Path fs x l) {a : Int} (ha : l[0]? = some a) : x = some a := by
  cases h with
  | nil => simp at ha
  | cons e p => simp at ha; rw [ha]
theorem Path.next {fs : Fs} {x : Option Int} {l : List Int} (h : Path fs x l) : ∀ {i : Nat} {a b : Int}, l[i]? = some a → l[i + 1]? = some b → ∃ f, lk fs a = some f ∧ f.below = some b := by
  induction h with
  | nil => intro i a b ha; simp at ha
  | @cons r0 f l e p ih =>
    intro i a b ha hb
    cases i with
    | zero =>
      have : r0 = a := by simpa using ha
      subst this
      exact ⟨f, e, p.head (by simpa using hb)⟩
    | succ i => exact ih (by simpa using ha) (by simpa using hb)
/-- the references but the hand's -/
def oth (W : Wd) (h : Int) (r : Int) : Nat := cR (W.tops.set h.toNat none) r + cR (mv W.marks) r
theorem cW_oth {W : Wd} {h : Int} (k : hOk W h) (r : Int) : cW W r = oth W h r + one (top W h) r := by
  have := set_count k none r
  rw [one_none] at this
  unfold cW oth
  omega
/-- y is another reference than the hand's -/
def Other (W : Wd) (h : Int) (y : Option Int) : Prop := ∀ r, y = some r → 1 ≤ oth W h r
theorem other_top {W : Wd} {h : Int} {j : Nat} {y : Option Int} (e : W.tops[j]? = some y) (n : j ≠ h.toNat) : Other W h y := fun r er => by
  subst er
  have : some r ∈ W.tops.set h.toNat none := by
    have : (W.tops.set h.toNat none)[j]? = some (some r) := by rw [List.getElem?_set_ne (Ne.symm n)]; exact e
    exact List.mem_of_getElem? this
  have := cR_ge this
  unfold oth; omega
theorem other_mark {W : Wd} {h : Int} {y : Option Int} (e : y ∈ mv W.marks) : Other W h y := fun r er => by
  subst er
  have := cR_ge e
  unfold oth; omega
theorem Other.in {W : Wd} (F : WFW W) {h : Int} (k : hOk W h) {y : Option Int} (o : Other W h y) : ∀ r, y = some r → ∃ f, lk W.frames r = some f := fun r e => by
  have := o r e
  exact F.wf.cin r (by rw [cW_oth k]; omega)
/-- a call down to which none is needed twice stands in no other pile -/
theorem excl {W : Wd} (F : WFW W) {h : Int} (k : hOk W h) {l : List Int} (p : Path W.frames (top W h) l) : ∀ (i : Nat) {a : Int}, l[i]? = some a → (∀ j b, j ≤ i → l[j]? = some b → nd W.frames b ≤ 1) → ∀ y m, Path W.frames y m → Other W h y → a ∉ m
  | 0, a, ha, hn, y, m, pm, o, hm => by
    have et := p.head ha
    obtain ⟨f, hf⟩ := p.in a (List.mem_of_getElem? ha)
    have n1 := hn 0 a (Nat.le_refl _) ha
    rw [nd_of hf] at n1
    have nb := F.wf.nb a f hf
    have cw := cW_oth k a
    rw [et, one_same] at cw
    rcases pm.mem_from a hm with z | ⟨b, _, g, h1, h2⟩
    · have := o a z; omega
    · have := cb_ge h1 h2; omega
  | i + 1, a, ha, hn, y, m, pm, o, hm => by
    have hi : i < l.length := by have := (List.getElem?_eq_some_iff.mp ha).1; omega
    have hb : l[i]? = some l[i] := List.getElem?_eq_getElem hi
    have ih := excl F k p i hb (fun j b hj e => hn j b (by omega) e) y m pm o
    obtain ⟨f0, h0, hb0⟩ := p.next hb ha
    obtain ⟨f, hf⟩ := p.in a (List.mem_of_getElem? ha)
    have n1 := hn (i + 1) a (Nat.le_refl _) ha
    rw [nd_of hf] at n1
    have nb := F.wf.nb a f hf
    have cw := cW_oth k a
    have c1 := cb_ge h0 hb0
    rcases pm.mem_from a hm with z | ⟨b, hbm, g, h1, h2⟩
    · have := o a z; omega
    · have ne : l[i] ≠ b := fun w => ih (by rw [w]; exact hbm)
      have := cb_two F.wf.nd h0 h1 ne hb0 h2
      omega
theorem WFW.tpath {W : Wd} (F : WFW W) (h : Int) : Path W.frames (top W h) (path W.frames (top W h)) := F.wf.path _ (F.topIn h)
theorem top_get {W : Wd} {h : Int} (k : hOk W h) : W.tops[h.toNat]? = some (top W h) := by
  obtain ⟨a, b⟩ := k
  have : h.toNat < W.tops.length := by omega
  unfold top
  rw [List.getD_eq_getElem?_getD, List.getElem?_eq_getElem this]; rfl

theorem len_ks {α : Type} (l : List (Int × α)) : l.length = (ks l).length := by simp [ks]
/-! ### in place -/
theorem setSlot_ok {V : Wd} (F : WFW V) {h : Int} (k : hOk V h) {d : Nat} {r : Int} (s v : Int) (idx : (path V.frames (top V h))[d]? = some r) (hy : ∀ y m, Path V.frames y m → Other V h y → r ∉ m) :
    WFW { V with frames := setSlot V.frames r s v } ∧ vals { V with frames := setSlot V.frames r s v } = (vals V).set h.toNat ((vl V.frames (top V h)).set d ((sl V.frames r).set s.toNat v)) ∧ kept { V with frames := setSlot V.frames r s v } = kept V := by
  have p := F.tpath h
  obtain ⟨f, hf⟩ := p.in r (List.mem_of_getElem? idx)
  have ef : setSlot V.frames r s v = pt V.frames r { f with slots := f.slots.set s.toNat v } := by simp [setSlot, hf]
  rw [ef]
  have oth' : ∀ y, Other V h y → vl (pt V.frames r { f with slots := f.slots.set s.toNat v }) y = vl V.frames y := fun y o => by
    have py := F.wf.path y (o.in F k)
    have nr := hy y _ py o
    exact (vl_congr py fun q hq g e => ⟨g, by rw [lk_pt_ne (fun z => nr (by rw [← z]; exact hq))]; exact e, rfl, rfl⟩).2
  refine ⟨⟨F.wf.slots hf _, F.r1, F.r40, fun q hq => ?_, F.ms, F.mr, F.m0, F.h1, F.h6⟩, ?_, ?_⟩
  · rw [show ks (pt V.frames r { f with slots := f.slots.set s.toNat v }) = ks V.frames from ks_pt_old (mem_ks.mpr ⟨f, hf⟩)] at hq
    exact F.rng q hq
  · refine map_set_of (fun j x e n => oth' x (other_top e n)) fun x e => ?_
    rw [top_get k] at e
    have ex := Option.some.inj e
    subst ex
    have p2 : Path (pt V.frames r { f with slots := f.slots.set s.toNat v }) (top V h) (path V.frames (top V h)) := p.congr fun q hq g e => by
      by_cases z : q = r
      · subst z; rw [hf] at e; cases e; exact ⟨_, lk_pt_same _ _ _, rfl⟩
      · exact ⟨g, by rw [lk_pt_ne z]; exact e, rfl⟩
    unfold vl
    rw [p2.eq]
    refine map_set_of (fun j x e n => ?_) fun x e => ?_
    · have ne : x ≠ r := fun z => by
        subst z
        have a := (List.getElem?_eq_some_iff.mp e)
        have b := (List.getElem?_eq_some_iff.mp idx)
        obtain ⟨ha, hae⟩ := a
        obtain ⟨hb, hbe⟩ := b
        have := (List.getElem_inj (h₀ := ha) (h₁ := hb) p.nodup).mp (by rw [hae, hbe])
        exact n this
      unfold sl; rw [lk_pt_ne ne]
    · rw [idx] at e
      have := Option.some.inj e
      subst this
      rw [sl_of (lk_pt_same _ _ _), sl_of hf]
  · show V.marks.map _ = V.marks.map _
    refine List.map_congr_left fun q hq => ?_
    rw [oth' q.2 (other_mark (List.mem_map.mpr ⟨q, hq, rfl⟩))]

/-! ### by copies -/
theorem Path.drop {fs : Fs} {x : Option Int} {l : List Int} (p : Path fs x l) : ∀ {i : Nat} {a : Int}, l[i]? = some a → ∃ f, lk fs a = some f ∧ Path fs f.below (l.drop (i + 1)) := by
  induction p with
  | nil => intro i a h; simp at h
  | @cons r f l e p ih =>
    intro i a h
    cases i with
    | zero =>
      have : r = a := by simpa using h
      subst this; exact ⟨f, e, p⟩
    | succ i => exact ih (by simpa using h)
theorem Path.splice {fs gs : Fs} {p b : Int} : ∀ (l1 : List Int) {x : Option Int} {l2 m : List Int} {g : Fr}, Path fs x (l1 ++ p :: l2) → (∀ r ∈ l1, ∀ f, lk fs r = some f → ∃ g, lk gs r = some g ∧ g.below = f.below) → lk gs p = some g → Path gs g.below m → Path gs x (l1 ++ p :: m)
  | [], x, l2, m, g, h, _, hg, pm => by
    cases h with
    | cons e p => exact .cons hg pm
  | a :: l1, x, l2, m, g, h, k, hg, pm => by
    cases h with
    | cons e p =>
      obtain ⟨g', h1, h2⟩ := k a List.mem_cons_self _ e
      exact .cons h1 (h2 ▸ Path.splice (b := b) l1 p (fun r hr => k r (List.mem_cons_of_mem _ hr)) hg pm)
theorem leave_more {fs : Fs} {r : Int} {f : Fr} (h : lk fs r = some f) (g : 1 < f.needs) : leave fs (some r) = pt fs r { f with needs := f.needs - 1 } := by
  unfold leave
  simp only [leaveF, h]
  rw [if_pos (by omega)]
structure Copied (W : Wd) (h : Int) (d : Nat) (n : Nat) (r : Int) (V : Wd) : Prop where
  wfw : WFW V
  hok : hOk V h
  vals : vals V = vals W
  kept : kept V = kept W
  at_ : (path V.frames (top V h))[d]? = some r
  new : ∀ y m, Path V.frames y m → Other V h y → r ∉ m
  many : V.many = W.many
  made : V.made = W.made + n
  rooms : V.rooms = W.rooms
  len : V.frames.length = W.frames.length + n
  pth : ∃ (i : Nat) (ns : List Int), i + n = d + 1 ∧ ns.length = n ∧ ns.Nodup ∧ (∀ r ∈ ns, lk W.frames r = none) ∧ path V.frames (top V h) = (path W.frames (top W h)).take i ++ (ns ++ (path W.frames (top W h)).drop (d + 1)) ∧ ks V.frames = ks W.frames ++ ns.reverse ∧ V.marks = W.marks ∧ (V.tops.length = W.tops.length ∧ ∀ j, j ≠ h.toNat → V.tops[j]? = W.tops[j]?) ∧ ∀ y, Other W h y → path V.frames y = path W.frames y
theorem copied_ok {W : Wd} (F : WFW W) {h : Int} (k : hOk W h) {d i : Nat} {l q : List Int} (el : path W.frames (top W h) = l) (hd : d < l.length) (eq : l.take (d + 1) = q) (hs : (sh W.frames q).head? = some i) (room : (W.frames.length : Int) + ((d : Int) - i + 1) ≤ W.rooms) :
    Copied W h d (d - i + 1) (copied W h q i).1 (copied W h q i).2 := by
  obtain ⟨si, sn, slt⟩ := sh_some hs
  have ql : q.length = d + 1 := by rw [← eq, List.length_take]; omega
  have qg : ∀ j, j ≤ d → q.getD j 0 = l.getD j 0 := fun j hj => by
    rw [List.getD_eq_getElem?_getD, List.getD_eq_getElem?_getD, ← eq, List.getElem?_take_of_lt (by omega)]
  have lg : ∀ j, j ≤ d → l[j]? = some (l.getD j 0) := fun j hj => by
    rw [List.getD_eq_getElem?_getD, List.getElem?_eq_getElem (by omega)]; rfl
  have hid : i ≤ d := by omega
  have p := F.tpath h
  rw [el] at p
  -- the deepest
  have ea : q.getD (q.length - 1) 0 = l.getD d 0 := by rw [ql]; exact qg d (Nat.le_refl _)
  obtain ⟨fd, hfd, pd⟩ := p.drop (lg d (Nat.le_refl _))
  have eb : below W.frames (q.getD (q.length - 1) 0) = fd.below := by rw [ea]; exact below_of hfd
  have hbin : ∀ r, fd.below = some r → ∃ f, lk W.frames r = some f := fun r e => F.wf.bin _ fd r hfd e
  have w1 := F.wf.want fd.below hbin
  have kw := ks_want W.frames fd.below
  have pdw : Path (wantF W.frames fd.below) fd.below (l.drop (d + 1)) := pd.congr fun r _ f e => by
    obtain ⟨g, h1, h2, _⟩ := want_in (x := fd.below) e
    exact ⟨g, h1, h2⟩
  have hos : ∀ o ∈ (q.drop i).reverse, ∃ f, lk (wantF W.frames fd.below) o = some f := fun o ho => by
    have hq : o ∈ l := by
      have := List.mem_of_mem_drop (List.mem_reverse.mp ho)
      rw [← eq] at this
      exact List.mem_of_mem_take this
    obtain ⟨f, hf⟩ := p.in o hq
    obtain ⟨g, h1, _⟩ := want_in (x := fd.below) hf
    exact ⟨g, h1⟩
  have lw : (wantF W.frames fd.below).length = W.frames.length := by
    have := congrArg List.length kw
    simpa [ks] using this
  have C := copyL_ok (rooms := W.rooms) (c := cW W) (q.drop i).reverse w1 (fun r hr => by rw [kw] at hr; exact F.rng r hr) hos (by rw [lw, List.length_reverse, List.length_drop, ql]; omega)
  have eqi : q.getD i 0 = l.getD i 0 := qg i hid
  have ecop : copied W h q i = (let t := copyL W.rooms (wantF W.frames fd.below) fd.below (q.drop i).reverse
    (t.2.2.headD 0, if i = 0 then { W with frames := leave t.1 (some (l.getD i 0)), tops := W.tops.set h.toNat t.2.1, made := W.made + t.2.2.length }
      else { W with frames := setBelow (leave t.1 (some (l.getD i 0))) (q.getD (i - 1) 0) t.2.1, made := W.made + t.2.2.length })) := by
    unfold copied; rw [eb, eqi]
  rw [ecop]
  generalize copyL W.rooms (wantF W.frames fd.below) fd.below (q.drop i).reverse = t at C
  obtain ⟨f2, b, rs⟩ := t
  obtain ⟨cw, clen, ckeys, crng, cfresh, cold, cslots, cpath⟩ := C
  simp only at cw clen ckeys crng cfresh cold cslots cpath
  have rlen : rs.length = d - i + 1 := by rw [clen, List.length_reverse, List.length_drop, ql]; omega
  have rne : rs ≠ [] := fun z => by rw [z] at rlen; simp at rlen
  -- old rooms, as they were but for the needs
  have oldW : ∀ r f, lk W.frames r = some f → ∃ g, lk f2 r = some g ∧ g.below = f.below ∧ g.slots = f.slots := fun r f e => by
    obtain ⟨g, h1, h2, h3⟩ := want_in (x := fd.below) e
    exact ⟨g, cold r g h1, h2, h3⟩
  have freshW : ∀ r ∈ rs, lk W.frames r = none := fun r hr => by
    have := cfresh r hr
    rw [← not_mem_ks] at this ⊢
    rw [← kw]; exact this
  have pb : Path f2 b (rs.reverse ++ l.drop (d + 1)) := cpath _ pdw
  -- the copies' values
  have slq : rs.reverse.map (sl f2) = (q.drop i).map (sl W.frames) := by
    rw [List.map_reverse, cslots, ← List.map_reverse, List.reverse_reverse]
    refine List.map_congr_left fun o ho => ?_
    have hq : o ∈ l := by
      have := List.mem_of_mem_drop ho
      rw [← eq] at this
      exact List.mem_of_mem_take this
    obtain ⟨f, hf⟩ := p.in o hq
    obtain ⟨g, h1, _, h3⟩ := want_in (x := fd.below) hf
    rw [sl_of hf, sl_of h1, h3]
  have sld : (l.drop (d + 1)).map (sl f2) = (l.drop (d + 1)).map (sl W.frames) := List.map_congr_left fun o ho => by
    obtain ⟨f, hf⟩ := p.in o (List.mem_of_mem_drop ho)
    obtain ⟨g, h1, _, h3⟩ := oldW o f hf
    rw [sl_of hf, sl_of h1, h3]
  have qd : q.drop i ++ l.drop (d + 1) = l.drop i := by
    rw [← eq, List.drop_take, show d + 1 = i + (d + 1 - i) by omega, ← List.drop_drop]
    have : i + (d + 1 - i) - i = d + 1 - i := by omega
    rw [this]; exact List.take_append_drop _ _
  -- the shared one
  obtain ⟨fi, hfi⟩ := p.in (l.getD i 0) (List.mem_of_getElem? (lg i hid))
  have ni : 1 < nd W.frames (l.getD i 0) := by rw [← eqi]; exact sn
  obtain ⟨gi, hgi, hgb, hgs⟩ := oldW _ fi hfi
  have ngi : 1 < gi.needs := by
    rw [nd_of hfi] at ni
    obtain ⟨g0, h1, _⟩ := want_in (x := fd.below) hfi
    have e2 := cold _ g0 h1
    rw [hgi] at e2; cases e2
    have a := F.wf.nb _ _ hfi
    have bq := w1.nb _ _ h1
    have cbe : cb (wantF W.frames fd.below) (l.getD i 0) = cb W.frames (l.getD i 0) := by
      cases z : fd.below with
      | none => rfl
      | some x =>
        obtain ⟨fx, hx⟩ := hbin x z
        simp only [wantF, hx]
        exact cb_pt_same (v := { fx with needs := fx.needs + 1 }) hx rfl _
    rw [cbe] at bq
    omega
  have el3 := leave_more hgi ngi
  have rhead : rs[0]? = some (rs.headD 0) := by
    cases rs with
    | nil => exact absurd rfl rne
    | cons a t => rfl
  have rlast : rs.reverse[d - i]? = some (rs.headD 0) := by
    rw [List.getElem?_reverse (by omega)]
    have : rs.length - 1 - (d - i) = 0 := by omega
    rw [this]; exact rhead
  have rmem : rs.headD 0 ∈ rs := List.mem_of_getElem? rhead
  have rnd : rs.reverse.Nodup := (List.reverse_perm rs).nodup_iff.mpr (by
    have := cw.nd
    rw [ckeys] at this
    exact (List.nodup_append.mp this).2.1)
  have frR : ∀ r ∈ rs.reverse, lk W.frames r = none := fun r hr => freshW r (List.mem_reverse.mp hr)
  by_cases i0 : i = 0
  · subst i0
    simp only [if_true]
    have et : top W h = some (l.getD 0 0) := p.head (lg 0 (by omega))
    rw [el3]
    have hl : WF f2 (fun r => (oth W h r + one b r) + one (some (l.getD 0 0)) r) := cw.ext fun r => by
      have := cW_oth k r
      rw [et] at this
      omega
    obtain ⟨gs, g1, g2, g3⟩ := WF.leave _ rfl hl
    have eg : gs = pt f2 (l.getD 0 0) { gi with needs := gi.needs - 1 } := by rw [← g1.eq cw.nd, el3]
    subst eg
    have hk' : ks (pt f2 (l.getD 0 0) { gi with needs := gi.needs - 1 }) = ks f2 := ks_pt_old (mem_ks.mpr ⟨_, hgi⟩)
    have hfr : ∀ r f, lk f2 r = some f → ∃ g, lk (pt f2 (l.getD 0 0) { gi with needs := gi.needs - 1 }) r = some g ∧ g.below = f.below ∧ g.slots = f.slots := fun r f e => by
      by_cases z : r = l.getD 0 0
      · subst z; rw [hgi] at e; cases e; exact ⟨_, lk_pt_same _ _ _, rfl, rfl⟩
      · exact ⟨f, by rw [lk_pt_ne z]; exact e, rfl, rfl⟩
    have othV : ∀ r, cR (W.tops.set h.toNat b) r + cR (mv W.marks) r = oth W h r + one b r := fun r => by
      have a := set_count k none r
      have bq := set_count k b r
      rw [one_none] at a
      unfold oth
      omega
    have topV : top { W with frames := pt f2 (l.getD 0 0) { gi with needs := gi.needs - 1 }, tops := W.tops.set h.toNat b, made := W.made + rs.length } h = b := by
      show (W.tops.set h.toNat b).getD h.toNat none = b
      obtain ⟨a, bq⟩ := k
      have : h.toNat < W.tops.length := by omega
      rw [List.getD_eq_getElem?_getD, List.getElem?_set_self this]; rfl
    have sameV : ∀ y, Other W h y → path (pt f2 (l.getD 0 0) { gi with needs := gi.needs - 1 }) y = path W.frames y ∧ vl (pt f2 (l.getD 0 0) { gi with needs := gi.needs - 1 }) y = vl W.frames y := fun y o =>
      vl_congr (F.wf.path y (o.in F k)) fun r _ f e => by
        obtain ⟨g, h1, h2, h3⟩ := oldW r f e
        obtain ⟨g', k1, k2, k3⟩ := hfr r g h1
        exact ⟨g', k1, k2.trans h2, k3.trans h3⟩
    have pbV : Path (pt f2 (l.getD 0 0) { gi with needs := gi.needs - 1 }) b (rs.reverse ++ l.drop (d + 1)) := pb.congr fun r _ f e => by
      obtain ⟨g, h1, h2, _⟩ := hfr r f e
      exact ⟨g, h1, h2⟩
    have kV : hOk { W with frames := pt f2 (l.getD 0 0) { gi with needs := gi.needs - 1 }, tops := W.tops.set h.toNat b, made := W.made + rs.length } h := by
      obtain ⟨a, bq⟩ := k
      refine ⟨a, ?_⟩
      show h < ((W.tops.set h.toNat b).length : Int)
      rw [List.length_set]; exact bq
    have oV : ∀ y, Other { W with frames := pt f2 (l.getD 0 0) { gi with needs := gi.needs - 1 }, tops := W.tops.set h.toNat b, made := W.made + rs.length } h y → Other W h y := fun y o r e => by
      have := o r e
      unfold oth at this ⊢
      have z : (W.tops.set h.toNat b).set h.toNat none = W.tops.set h.toNat none := by rw [List.set_set]
      simp only [z] at this
      exact this
    refine ⟨⟨g2.ext fun r => (othV r).symm, F.r1, F.r40, fun r hr => ?_, F.ms, F.mr, F.m0, ?_, ?_⟩, kV, ?_, ?_, ?_, fun y m pm o hm => ?_, rfl, ?_, rfl, ?_, ⟨0, rs.reverse, by omega, by rw [List.length_reverse]; exact rlen, rnd, frR, by rw [topV, el, List.take_zero, List.nil_append]; exact pbV.eq, by rw [List.reverse_reverse, ← kw, ← ckeys]; exact hk', rfl, ⟨by show (W.tops.set h.toNat b).length = _; rw [List.length_set], fun j hj => by show (W.tops.set h.toNat b)[j]? = _; rw [List.getElem?_set_ne (Ne.symm hj)]⟩, fun y o => (sameV y o).1⟩⟩
    · rw [show ks _ = ks f2 from hk', ckeys, kw] at hr
      rcases List.mem_append.mp hr with z | z
      · exact F.rng r z
      · exact crng r z
    · show 1 ≤ (W.tops.set h.toNat b).length; rw [List.length_set]; exact F.h1
    · show (W.tops.set h.toNat b).length ≤ 6; rw [List.length_set]; exact F.h6
    · show (W.tops.set h.toNat b).map _ = W.tops.map (vl W.frames)
      have vb : vl (pt f2 (l.getD 0 0) { gi with needs := gi.needs - 1 }) b = vl W.frames (top W h) := by
        unfold vl
        rw [pbV.eq, el, List.map_append]
        have z : ∀ (ms : List Int), (∀ r ∈ ms, ∃ f, lk f2 r = some f) → ms.map (sl (pt f2 (l.getD 0 0) { gi with needs := gi.needs - 1 })) = ms.map (sl f2) := fun ms hm => List.map_congr_left fun r hr => by
          obtain ⟨f, hf⟩ := hm r hr
          obtain ⟨g, h1, _, h3⟩ := hfr r f hf
          rw [sl_of h1, sl_of hf, h3]
        have hin := pb.in
        rw [z _ (fun r hr => hin r (List.mem_append_left _ hr)), z _ (fun r hr => hin r (List.mem_append_right _ hr)), slq, sld, ← List.map_append, qd, List.drop_zero]
      refine set_map_of (fun j x e n => (sameV x (other_top e n)).2) fun x e => ?_
      rw [top_get k] at e
      rw [← Option.some.inj e]; exact vb
    · show W.marks.map _ = W.marks.map _
      refine List.map_congr_left fun x hx => ?_
      rw [(sameV x.2 (other_mark (List.mem_map.mpr ⟨x, hx, rfl⟩))).2]
    · rw [topV, pbV.eq, List.getElem?_append_left (by rw [List.length_reverse]; omega)]
      have := rlast
      simpa using this
    · have e := (sameV y (oV y o)).1
      have pe : path (pt f2 (l.getD 0 0) { gi with needs := gi.needs - 1 }) y = m := pm.eq
      rw [pe] at e
      obtain ⟨f, hf⟩ := (F.wf.path y ((oV y o).in F k)).in (rs.headD 0) (by rw [← e]; exact hm)
      rw [freshW _ rmem] at hf; cases hf
    · show W.made + (rs.length : Int) = W.made + ((d - 0 + 1 : Nat) : Int)
      rw [rlen]
    · show (pt f2 (l.getD 0 0) { gi with needs := gi.needs - 1 }).length = _
      rw [len_ks, hk'.trans ckeys, List.length_append, ← len_ks, lw, rlen]
  · simp only [if_neg i0]
    have hi1 : i - 1 ≤ d := by omega
    have qp : q.getD (i - 1) 0 = l.getD (i - 1) 0 := qg (i - 1) hi1
    rw [qp, el3]
    have hp0 := lg (i - 1) hi1
    obtain ⟨fp, hfp, hfb⟩ := p.next hp0 (show l[i - 1 + 1]? = some (l.getD i 0) by rw [show i - 1 + 1 = i by omega]; exact lg i hid)
    obtain ⟨gp, hgp, hgpb, hgps⟩ := oldW _ fp hfp
    have pq : l.getD (i - 1) 0 ≠ l.getD i 0 := nodup_ne p.nodup hp0 (lg i hid) (by omega)
    generalize ep : l.getD (i - 1) 0 = p0 at *
    generalize eqq : l.getD i 0 = qi at *
    have e4 : setBelow (pt f2 qi { gi with needs := gi.needs - 1 }) p0 b = pt (pt f2 qi { gi with needs := gi.needs - 1 }) p0 { gp with below := b } := by
      unfold setBelow; rw [lk_pt_ne pq, hgp]
    rw [e4]
    have np : p0 ∉ rs.reverse ++ l.drop (d + 1) := fun z => by
      rcases List.mem_append.mp z with w | w
      · have := freshW p0 (List.mem_reverse.mp w)
        rw [hfp] at this; cases this
      · obtain ⟨j, hj⟩ := List.getElem?_of_mem w
        rw [List.getElem?_drop] at hj
        exact nodup_ne p.nodup hp0 hj (by omega) rfl
    have g2 := cw.redirect hgp (hgpb.trans hfb) hgi ngi pb np pq
    have hfr : ∀ r f, r ≠ p0 → lk f2 r = some f → ∃ g, lk (pt (pt f2 qi { gi with needs := gi.needs - 1 }) p0 { gp with below := b }) r = some g ∧ g.below = f.below ∧ g.slots = f.slots := fun r f n e => by
      rw [lk_pt_ne n]
      by_cases z : r = qi
      · subst z; rw [hgi] at e; cases e; exact ⟨_, lk_pt_same _ _ _, rfl, rfl⟩
      · exact ⟨f, by rw [lk_pt_ne z]; exact e, rfl, rfl⟩
    have k2 : lk (pt f2 qi { gi with needs := gi.needs - 1 }) p0 = some gp := by rw [lk_pt_ne pq]; exact hgp
    have hk' : ks (pt (pt f2 qi { gi with needs := gi.needs - 1 }) p0 { gp with below := b }) = ks f2 := by
      rw [ks_pt_old (mem_ks.mpr ⟨_, k2⟩)]
      exact ks_pt_old (mem_ks.mpr ⟨_, hgi⟩)
    have hslot : ∀ r f, lk W.frames r = some f → sl (pt (pt f2 qi { gi with needs := gi.needs - 1 }) p0 { gp with below := b }) r = sl W.frames r := fun r f e => by
      obtain ⟨g, h1, _, h3⟩ := oldW r f e
      by_cases z : r = p0
      · subst z
        rw [hgp] at h1; cases h1
        rw [sl_of (lk_pt_same _ _ _), sl_of e]; exact h3
      · obtain ⟨g', k1, _, k3⟩ := hfr r g z h1
        rw [sl_of k1, sl_of e, k3, h3]
    have sameV : ∀ y, Other W h y → path (pt (pt f2 qi { gi with needs := gi.needs - 1 }) p0 { gp with below := b }) y = path W.frames y ∧ vl (pt (pt f2 qi { gi with needs := gi.needs - 1 }) p0 { gp with below := b }) y = vl W.frames y := fun y o => by
      have py := F.wf.path y (o.in F k)
      have ex := excl F k p (i - 1) hp0 (fun j c hj hc => by
        have := slt j (by omega)
        rw [qg j (by omega), List.getD_eq_getElem?_getD, hc] at this
        exact this) y _ py o
      exact vl_congr py fun r hr f e => by
        have n : r ≠ p0 := fun z => ex (by rw [← z]; exact hr)
        obtain ⟨g, h1, h2, h3⟩ := oldW r f e
        obtain ⟨g', k1, k2, k3⟩ := hfr r g n h1
        exact ⟨g', k1, k2.trans h2, k3.trans h3⟩
    have pbV : Path (pt (pt f2 qi { gi with needs := gi.needs - 1 }) p0 { gp with below := b }) b (rs.reverse ++ l.drop (d + 1)) := pb.congr fun r hr f e => by
      obtain ⟨g, h1, h2, _⟩ := hfr r f (fun z => np (by rw [← z]; exact hr)) e
      exact ⟨g, h1, h2⟩
    have lsplit : l = l.take (i - 1) ++ p0 :: l.drop i := by
      have h1 : i - 1 < l.length := by omega
      have h2 := (List.take_append_drop (i - 1) l).symm
      have h3 : l.drop (i - 1) = p0 :: l.drop i := by
        rw [List.drop_eq_getElem_cons h1]
        have : l[i - 1] = p0 := by
          have := hp0
          rw [List.getElem?_eq_getElem h1] at this
          exact Option.some.inj this
        rw [this, show i - 1 + 1 = i by omega]
      rw [h3] at h2; exact h2
    have pV : Path (pt (pt f2 qi { gi with needs := gi.needs - 1 }) p0 { gp with below := b }) (top W h) (l.take (i - 1) ++ p0 :: (rs.reverse ++ l.drop (d + 1))) := by
      refine Path.splice (b := 0) (l2 := l.drop i) (g := { gp with below := b }) (l.take (i - 1)) (by rw [← lsplit]; exact p) (fun r hr f e => ?_) (lk_pt_same _ _ _) pbV
      have n : r ≠ p0 := fun z => by
        obtain ⟨j, hj⟩ := List.getElem?_of_mem hr
        have hj' : j < i - 1 := by
          have := (List.getElem?_eq_some_iff.mp hj).1
          rw [List.length_take] at this; omega
        rw [List.getElem?_take_of_lt hj'] at hj
        exact nodup_ne p.nodup hj hp0 (by omega) z
      obtain ⟨g, h1, h2, _⟩ := oldW r f e
      obtain ⟨g', k1, k2, _⟩ := hfr r g n h1
      exact ⟨g', k1, k2.trans h2⟩
    refine ⟨⟨g2, F.r1, F.r40, fun r hr => ?_, F.ms, F.mr, F.m0, F.h1, F.h6⟩, k, ?_, ?_, ?_, fun y m pm o hm => ?_, rfl, ?_, rfl, ?_, ⟨i, rs.reverse, by omega, by rw [List.length_reverse]; exact rlen, rnd, frR, ?_, by rw [List.reverse_reverse, ← kw, ← ckeys]; exact hk', rfl, ⟨rfl, fun j _ => rfl⟩, fun y o => (sameV y o).1⟩⟩
    · rw [show ks _ = ks f2 from hk', ckeys, kw] at hr
      rcases List.mem_append.mp hr with z | z
      · exact F.rng r z
      · exact crng r z
    · show W.tops.map _ = W.tops.map (vl W.frames)
      have vb : vl (pt (pt f2 qi { gi with needs := gi.needs - 1 }) p0 { gp with below := b }) (top W h) = vl W.frames (top W h) := by
        unfold vl
        rw [pV.eq, el]
        have z1 : ∀ r ∈ rs.reverse ++ l.drop (d + 1), sl (pt (pt f2 qi { gi with needs := gi.needs - 1 }) p0 { gp with below := b }) r = sl f2 r := fun r hr => by
          obtain ⟨f, hf⟩ := pb.in r hr
          obtain ⟨g, h1, _, h3⟩ := hfr r f (fun z => np (by rw [← z]; exact hr)) hf
          rw [sl_of h1, sl_of hf, h3]
        have z2 : (rs.reverse ++ l.drop (d + 1)).map (sl (pt (pt f2 qi { gi with needs := gi.needs - 1 }) p0 { gp with below := b })) = (l.drop i).map (sl W.frames) := by
          rw [List.map_congr_left z1, List.map_append, slq, sld, ← List.map_append, qd]
        rw [List.map_append, List.map_cons, z2, hslot _ _ hfp]
        have z3 : (l.take (i - 1)).map (sl (pt (pt f2 qi { gi with needs := gi.needs - 1 }) p0 { gp with below := b })) = (l.take (i - 1)).map (sl W.frames) := List.map_congr_left fun r hr => by
          obtain ⟨f, hf⟩ := p.in r (List.mem_of_mem_take hr)
          exact hslot r f hf
        rw [z3, ← List.map_cons, ← List.map_append, ← lsplit]
      have := set_map_of (l := W.tops) (f := vl (pt (pt f2 qi { gi with needs := gi.needs - 1 }) p0 { gp with below := b })) (g := vl W.frames) (h := h.toNat) (b := top W h) (fun j x e n => (sameV x (other_top e n)).2) fun x e => by
        rw [top_get k] at e
        rw [← Option.some.inj e]; exact vb
      rw [← this]
      congr 1
      apply List.ext_getElem?
      intro j
      rw [List.getElem?_set]
      by_cases z : h.toNat = j
      · subst z
        have : h.toNat < W.tops.length := by obtain ⟨a, bq⟩ := k; omega
        rw [if_pos rfl, if_pos this]; exact top_get k
      · rw [if_neg z]
    · show W.marks.map _ = W.marks.map _
      refine List.map_congr_left fun x hx => ?_
      rw [(sameV x.2 (other_mark (List.mem_map.mpr ⟨x, hx, rfl⟩))).2]
    · show (path _ (top W h))[d]? = _
      rw [pV.eq, List.getElem?_append_right (by rw [List.length_take]; omega), List.length_take]
      have : d - min (i - 1) l.length = (d - i) + 1 := by omega
      rw [this, List.getElem?_cons_succ, List.getElem?_append_left (by rw [List.length_reverse]; omega)]
      exact rlast
    · have e := (sameV y o).1
      have pe : path (pt (pt f2 qi { gi with needs := gi.needs - 1 }) p0 { gp with below := b }) y = m := pm.eq
      rw [pe] at e
      obtain ⟨f, hf⟩ := (F.wf.path y (Other.in F k o)).in (rs.headD 0) (by rw [← e]; exact hm)
      rw [freshW _ rmem] at hf; cases hf
    · show W.made + (rs.length : Int) = W.made + ((d - i + 1 : Nat) : Int)
      rw [rlen]
    · show (pt (pt f2 qi { gi with needs := gi.needs - 1 }) p0 { gp with below := b }).length = _
      rw [len_ks, hk'.trans ckeys, List.length_append, ← len_ks, lw, rlen]
    · show path _ (top W h) = _
      rw [pV.eq, el]
      have : l.take i = l.take (i - 1) ++ [p0] := by
        have e : i = i - 1 + 1 := by omega
        rw [e, List.take_add_one, hp0, show i - 1 + 1 - 1 = i - 1 by omega]; rfl
      rw [this, List.append_assoc]; rfl
structure PutOk (W : Wd) (h d s v n : Int) (W' : Wd) : Prop where
  hok : hOk W h
  d0 : 0 ≤ d
  dl : d < ((vl W.frames (top W h)).length : Int)
  s0 : 0 ≤ s
  sl : s < ((((vl W.frames (top W h)).getD d.toNat []).length : Nat) : Int)
  wfw : WFW W'
  vals : vals W' = (SW.vals W).set h.toNat ((vl W.frames (top W h)).set d.toNat (((vl W.frames (top W h)).getD d.toNat []).set s.toNat v))
  kept : kept W' = SW.kept W
  many : W'.many = W.many
  rooms : W'.rooms = W.rooms
  made : W'.made = W.made + n
  pth : ∃ (i : Nat) (ns : List Int), (i : Int) + n = d + 1 ∧ (ns.length : Int) = n ∧ ns.Nodup ∧ (∀ r ∈ ns, lk W.frames r = none) ∧ path W'.frames (top W' h) = (path W.frames (top W h)).take i ++ (ns ++ (path W.frames (top W h)).drop (d.toNat + 1)) ∧ ks W'.frames = ks W.frames ++ ns.reverse ∧ W'.marks = W.marks ∧ (W'.tops.length = W.tops.length ∧ ∀ j, j ≠ h.toNat → W'.tops[j]? = W.tops[j]?) ∧ ∀ y, Other W h y → path W'.frames y = path W.frames y
theorem path_setSlot {fs : Fs} {c : Int → Nat} (F : WF fs c) {r : Int} {f : Fr} (e : lk fs r = some f) (s v : Int) (y : Option Int) (hy : ∀ a, y = some a → ∃ g, lk fs a = some g) : path (setSlot fs r s v) y = path fs y ∧ ks (setSlot fs r s v) = ks fs := by
  unfold setSlot
  rw [e]
  refine ⟨?_, ks_pt_old (mem_ks.mpr ⟨_, e⟩)⟩
  have p := F.path y hy
  have q : Path (pt fs r { f with slots := f.slots.set s.toNat v }) y (path fs y) := p.congr fun a _ g hg => by
    by_cases z : a = r
    · subst z; rw [e] at hg; cases hg; exact ⟨_, lk_pt_same _ _ _, rfl⟩
    · exact ⟨g, by rw [lk_pt_ne z]; exact hg, rfl⟩
  exact q.eq
theorem doPut_ok {W W' : Wd} (F : WFW W) {h d s v n : Int} (e : doPut W h d s v = .ok (n, W')) : PutOk W h d s v n W' := by
  unfold doPut doWay at e
  by_cases k : hOk W h
  · rw [if_neg (fun z => z k)] at e
    by_cases kd : 0 ≤ d ∧ d < ((path W.frames (top W h)).length : Int)
    · rw [if_neg (fun z => z kd)] at e
      simp only at e
      generalize el : path W.frames (top W h) = l at e kd
      have p := F.tpath h
      rw [el] at p
      have hd : d.toNat < l.length := by omega
      have ld : l[d.toNat]? = some (l.getD d.toNat 0) := by
        rw [List.getD_eq_getElem?_getD, List.getElem?_eq_getElem hd]; rfl
      have qd : (l.take (d.toNat + 1)).getD d.toNat 0 = l.getD d.toNat 0 := by
        rw [List.getD_eq_getElem?_getD, List.getD_eq_getElem?_getD, List.getElem?_take_of_lt (by omega)]
      rw [qd] at e
      have evl : vl W.frames (top W h) = l.map (SW.sl W.frames) := by unfold vl; rw [el]
      have vd : (vl W.frames (top W h)).getD d.toNat [] = SW.sl W.frames (l.getD d.toNat 0) := by
        rw [evl, List.getD_eq_getElem?_getD, List.getElem?_map, ld]; rfl
      split at e
      · cases e
      rename_i ks
      have ks := Decidable.byContradiction ks
      have dl : d < ((vl W.frames (top W h)).length : Int) := by rw [evl, List.length_map]; exact kd.2
      split at e
      · rename_i hs
        have e' := congrArg Prod.snd (Except.ok.inj e)
        simp only at e'
        subst e'
        have S := setSlot_ok F k (d := d.toNat) (r := l.getD d.toNat 0) s v (by rw [el]; exact ld) fun y m pm o => excl F k p d.toNat ld (fun j b hj hb => by
          have := sh_none hs j (by rw [List.length_take]; omega)
          rw [List.getD_eq_getElem?_getD, List.getElem?_take_of_lt (by omega), hb] at this
          exact this) y m pm o
        obtain ⟨S1, S2, S3⟩ := S
        have en : (0 : Int) = n := congrArg Prod.fst (Except.ok.inj e)
        obtain ⟨fd, hfd⟩ := p.in _ (List.mem_of_getElem? ld)
        have ps := path_setSlot F.wf hfd s v
        refine ⟨k, kd.1, dl, ks.1, by rw [vd]; exact ks.2, S1, by rw [vd]; exact S2, S3, rfl, rfl, by show W.made = _; omega, d.toNat + 1, [], by omega, by rw [← en]; rfl, List.nodup_nil, by simp, ?_, by rw [List.reverse_nil, List.append_nil]; exact (ps none (fun _ z => by cases z)).2, rfl, ⟨rfl, fun _ _ => rfl⟩, fun y o => (ps y (Other.in F k o)).1⟩
        rw [List.nil_append, List.take_append_drop]
        exact (ps (top W h) (F.topIn h)).1
      · rename_i i hs
        split at e
        · cases e
        rename_i kr
        have en : d - (i : Int) + 1 = n := congrArg Prod.fst (Except.ok.inj e)
        have e' := congrArg Prod.snd (Except.ok.inj e)
        simp only at e'
        subst e'
        have iq := (sh_some hs).1
        rw [List.length_take] at iq
        have C := copied_ok F k el hd rfl hs (by omega)
        generalize copied W h (l.take (d.toNat + 1)) i = cc at C
        obtain ⟨r, V⟩ := cc
        obtain ⟨c1, c2, c3, c4, c5, c6, c7, c10, c8, _, c9⟩ := C
        simp only at c1 c2 c3 c4 c5 c6 c7 c8 c9 c10
        obtain ⟨i9, ns, w1, w2, w3, w4, w5, w6, w7, w8, w9⟩ := c9
        obtain ⟨fr9, hr9⟩ := (c1.tpath h).in r (List.mem_of_getElem? c5)
        have ps := path_setSlot c1.wf hr9 s v
        obtain ⟨S1, S2, S3⟩ := setSlot_ok c1 c2 s v c5 c6
        have hv : vl V.frames (top V h) = vl W.frames (top W h) := by
          have a : (vals V)[h.toNat]? = some (vl V.frames (top V h)) := by unfold vals; rw [List.getElem?_map, top_get c2]; rfl
          have b : (vals W)[h.toNat]? = some (vl W.frames (top W h)) := by unfold vals; rw [List.getElem?_map, top_get k]; rfl
          rw [c3, b] at a; exact (Option.some.inj a).symm
        have hsl : SW.sl V.frames r = (vl W.frames (top W h)).getD d.toNat [] := by
          rw [← hv]; unfold vl
          rw [List.getD_eq_getElem?_getD, List.getElem?_map, c5]; rfl
        refine ⟨k, kd.1, dl, ks.1, by rw [vd]; exact ks.2, S1, ?_, S3.trans c4, c7, c8, by show V.made = _; omega, i9, ns, by omega, by omega, w3, w4, (ps (top V h) (c1.topIn h)).1.trans w5, (ps none (fun _ z => by cases z)).2.trans w6, w7, w8, fun y o => (ps y ?_).1.trans (w9 y o)⟩
        rotate_left
        · intro a ea
          subst ea
          have pa := c1.wf.nd
          obtain ⟨g, hg⟩ := Other.in F k o a rfl
          have : a ∈ SW.ks V.frames := by rw [w6]; exact List.mem_append_left _ (mem_ks.mpr ⟨g, hg⟩)
          exact mem_ks.mp this
        rw [S2, hsl, hv, c3]
    · rw [if_pos kd] at e; cases e
  · rw [if_pos k] at e; cases e
end SW
end
section
/-! SwReach: every room is reached from a hand or a place; shared rooms. -/
namespace SW
/-- roots: what the hands and the places hold -/
def roots (W : Wd) : List (Option Int) := W.tops ++ mv W.marks
theorem root_mem {W : Wd} {r : Int} (h : 1 ≤ cW W r) : some r ∈ roots W := by
  unfold cW at h
  by_cases z : 1 ≤ cR W.tops r
  · exact List.mem_append.mpr (.inl (cR_mem z))
  · exact List.mem_append.mpr (.inr (cR_mem (by omega)))
theorem WFW.root {W : Wd} (F : WFW W) {y : Option Int} (h : y ∈ roots W) : ∀ r, y = some r → ∃ f, lk W.frames r = some f :=
  F.ref (List.mem_append.mp h)
/-- each room is on the pile of a hand or of a place -/
theorem WFW.reach {W : Wd} (F : WFW W) : ∀ (n : Nat) {r : Int} {f : Fr} {l : List Int}, lk W.frames r = some f → Path W.frames (some r) l → W.frames.length ≤ l.length + n → ∃ y ∈ roots W, ∃ m1, Path W.frames y (m1 ++ l) := by
  intro n
  induction n with
  | zero =>
    intro r f l hf hl hn
    by_cases c : 1 ≤ cW W r
    · exact ⟨some r, root_mem c, [], hl⟩
    · have e := F.wf.nb r f hf
      have p := F.wf.pos r f hf
      have : 1 ≤ cb W.frames r := by omega
      obtain ⟨k, g, h1, h2⟩ := cb_pos F.wf.nd this
      have hk : Path W.frames (some k) (k :: l) := .cons h1 (by rw [h2]; exact hl)
      have := hk.len
      simp at this; omega
  | succ n ih =>
    intro r f l hf hl hn
    by_cases c : 1 ≤ cW W r
    · exact ⟨some r, root_mem c, [], hl⟩
    · have e := F.wf.nb r f hf
      have p := F.wf.pos r f hf
      have : 1 ≤ cb W.frames r := by omega
      obtain ⟨k, g, h1, h2⟩ := cb_pos F.wf.nd this
      have hk : Path W.frames (some k) (k :: l) := .cons h1 (by rw [h2]; exact hl)
      obtain ⟨y, hy, m, hm⟩ := ih h1 hk (by simp; omega)
      exact ⟨y, hy, m ++ [k], by simpa using hm⟩
theorem WFW.reached {W : Wd} (F : WFW W) {r : Int} {f : Fr} (hf : lk W.frames r = some f) : ∃ y ∈ roots W, r ∈ path W.frames y := by
  obtain ⟨l, hl⟩ := F.wf.fin r f hf
  obtain ⟨y, hy, m, hm⟩ := F.reach W.frames.length hf hl (by omega)
  refine ⟨y, hy, ?_⟩
  rw [hm.eq]
  obtain ⟨g, t, _, _, e⟩ := hl.of_some
  rw [e]; simp
/-- two references: one from elsewhere than below k -/
theorem cb_other {fs : Fs} {r : Int} (nd : (ks fs).Nodup) : ∀ {k : Int} {f : Fr}, lk fs k = some f → f.below = some r → 2 ≤ cb fs r → ∃ j g, j ≠ k ∧ lk fs j = some g ∧ g.below = some r := by
  intro k f hk hb h2
  have e := cb_dr nd hk r
  rw [hb, one_same] at e
  obtain ⟨j, g, h3, h4⟩ := cb_pos (fs := dr fs k) (nd_dr nd) (r := r) (by omega)
  rw [lk_dr] at h3
  split at h3
  · cases h3
  · rename_i n; exact ⟨j, g, n, h3, h4⟩
end SW
end
section
/-! SwSweep: the rooms that nobody reaches are those that leaving takes away. -/
namespace SW
def onL (fs : Fs) : List (Int × Option Int) := fs.map fun q => (q.1, q.2.below)
def slL (fs : Fs) : List (Int × List Int) := fs.map fun q => (q.1, q.2.slots)
theorem pt_map {β : Type} (p : Fr → β) : ∀ {fs : Fs} {r : Int} {f g : Fr}, (ks fs).Nodup → lk fs r = some f → p g = p f → (pt fs r g).map (fun q => (q.1, p q.2)) = fs.map fun q => (q.1, p q.2)
  | [], _, _, _, _, h, _ => by cases h
  | (j, a) :: l, r, f, g, nd, h, e => by
    by_cases z : j = r
    · simp only [lk, if_pos z] at h
      cases h
      simp only [pt, if_pos z, List.map_cons, e]
    · simp only [lk, if_neg z] at h
      simp only [pt, if_neg z, List.map_cons]
      rw [pt_map p (List.nodup_cons.mp nd).2 h e]
theorem want_map {β : Type} (p : Fr → β) (hp : ∀ f n, p { f with needs := n } = p f) {fs : Fs} (nd : (ks fs).Nodup) (x : Option Int) : (wantF fs x).map (fun q => (q.1, p q.2)) = fs.map fun q => (q.1, p q.2) := by
  unfold wantF
  cases x with
  | none => rfl
  | some r =>
    show (match lk fs r with | none => fs | some f => pt fs r { f with needs := f.needs + 1 }).map _ = _
    cases e : lk fs r with
    | none => rfl
    | some f => exact pt_map p nd e (hp _ _)
/-- what is left stands as it stood, in its order -/
theorem Leave.map {β : Type} (p : Fr → β) (hp : ∀ f n, p { f with needs := n } = p f) {fs gs : Fs} {x : Option Int} (h : Leave fs x gs) : (ks fs).Nodup → gs.map (fun q => (q.1, p q.2)) = (fs.map fun q => (q.1, p q.2)).filter fun q => has gs q.1 := by
  have all : ∀ {fs : Fs}, ∀ q ∈ fs.map (fun q => (q.1, p q.2)), has fs q.1 = true := fun {fs} q hq => by
    obtain ⟨u, hu, rfl⟩ := List.mem_map.mp hq
    have : u.1 ∈ ks fs := List.mem_map.mpr ⟨u, hu, rfl⟩
    obtain ⟨v, hv⟩ := mem_ks.mp this
    exact has_true.mpr ⟨v, hv⟩
  induction h with
  | nil => intro nd; exact (List.filter_eq_self.mpr all).symm
  | @stop fs r f e g =>
    intro nd
    rw [pt_map p nd e (hp _ _)]
    refine (List.filter_eq_self.mpr fun q hq => ?_).symm
    have := all q hq
    obtain ⟨v, hv⟩ := has_true.mp this
    refine has_true.mpr ?_
    rw [lk_pt]
    split
    · exact ⟨_, rfl⟩
    · exact ⟨v, hv⟩
  | @go fs gs r f e g h ih =>
    intro nd
    rw [ih (nd_dr nd)]
    have sub : ∀ k, has gs k = true → k ≠ r := fun k hk z => by
      have sb : ∀ {fs gs : Fs} {x : Option Int}, Leave fs x gs → ∀ k, has gs k = true → has fs k = true := fun {fs gs x} h => by
        induction h with
        | nil => intro k hk; exact hk
        | @stop fs r f e _ =>
          intro k hk
          obtain ⟨v, hv⟩ := has_true.mp hk
          rw [lk_pt] at hv
          split at hv
          · rename_i z; exact has_true.mpr ⟨f, by rw [z]; exact e⟩
          · exact has_true.mpr ⟨v, hv⟩
        | @go fs gs r f e _ _ ih =>
          intro k hk
          obtain ⟨v, hv⟩ := has_true.mp (ih k hk)
          rw [lk_dr] at hv
          split at hv
          · cases hv
          · exact has_true.mpr ⟨v, hv⟩
      obtain ⟨v, hv⟩ := has_true.mp (sb h k hk)
      rw [lk_dr, if_pos z] at hv; cases hv
    unfold dr
    rw [List.filter_map, List.filter_map, List.filter_filter]
    congr 1
    apply List.filter_congr
    intro q _
    show (has gs q.1 && decide (q.1 ≠ r)) = has gs q.1
    cases hk : has gs q.1 with
    | false => rfl
    | true => simp [sub q.1 hk]
/-- who stands on: just the rooms on some pile -/
theorem kept_rooms {W W' : Wd} (F' : WFW W') (s : Sub W'.frames W.frames) (r : Int) : has W'.frames r = true ↔ ∃ y ∈ roots W', r ∈ path W.frames y := by
  constructor
  · intro h
    obtain ⟨f, hf⟩ := has_true.mp h
    obtain ⟨y, hy, hr⟩ := F'.reached hf
    exact ⟨y, hy, by rw [← (vl_sub F'.wf s y (F'.root hy)).1]; exact hr⟩
  · rintro ⟨y, hy, hr⟩
    rw [← (vl_sub F'.wf s y (F'.root hy)).1] at hr
    obtain ⟨f, hf⟩ := (F'.wf.path y (F'.root hy)).in r hr
    exact has_true.mpr ⟨f, hf⟩
end SW
end
section
/-! SwMp: piles, needs, free rooms and prices told by the law's own wood. -/
namespace SW
inductive MPath (on : List (Int × Option Int)) : Option Int → List Int → Prop
  | nil : MPath on none []
  | cons {r : Int} {b : Option Int} {l : List Int} : lk on r = some b → MPath on b l → MPath on (some r) (r :: l)
theorem lk_onL (fs : Fs) (r : Int) : lk (onL fs) r = (lk fs r).map (·.below) := by
  induction fs with
  | nil => rfl
  | cons p l ih =>
    obtain ⟨j, a⟩ := p
    by_cases e : j = r
    · simp [onL, lk, e]
    · simp only [onL, List.map_cons, lk, if_neg e]; exact ih
theorem lk_slL (fs : Fs) (r : Int) : lk (slL fs) r = (lk fs r).map (·.slots) := by
  induction fs with
  | nil => rfl
  | cons p l ih =>
    obtain ⟨j, a⟩ := p
    by_cases e : j = r
    · simp [slL, lk, e]
    · simp only [slL, List.map_cons, lk, if_neg e]; exact ih
theorem Path.on {fs : Fs} {x : Option Int} {l : List Int} (h : Path fs x l) : MPath (onL fs) x l := by
  induction h with
  | nil => exact .nil
  | cons e _ ih => exact .cons (by rw [lk_onL, e]; rfl) ih
theorem has_onL (fs : Fs) (r : Int) : has (onL fs) r = has fs r := by
  unfold has; rw [lk_onL]; cases lk fs r <;> rfl
theorem ks_onL (fs : Fs) : ks (onL fs) = ks fs := by unfold onL ks; rw [List.map_map]; rfl
theorem ks_slL (fs : Fs) : ks (slL fs) = ks fs := by unfold slL ks; rw [List.map_map]; rfl
/-- references, counted -/
def refs (tops : List (Option Int)) (marks : List (Int × Option Int)) (on : List (Int × Option Int)) : List (Option Int) := tops ++ mv marks ++ mv on
theorem cR_filter (l : List (Option Int)) (r : Int) : (l.filter fun y => decide (y = some r)).length = cR l r := by
  induction l with
  | nil => rfl
  | cons y t ih =>
    by_cases e : y = some r
    · rw [List.filter_cons_of_pos (by simpa using e)]; simp [cR, one, e, ih]; omega
    · rw [List.filter_cons_of_neg (by simpa using e)]; simp [cR, one, e, ih]
theorem cb_onL (fs : Fs) (r : Int) : cb fs r = cR (mv (onL fs)) r := by
  induction fs with
  | nil => rfl
  | cons p l ih => simp only [cb, onL, mv, List.map_cons, cR] at ih ⊢; rw [ih]
/-- needs are the references -/
theorem needs_refs {W : Wd} (F : WFW W) {r : Int} {f : Fr} (h : lk W.frames r = some f) : (((refs W.tops W.marks (onL W.frames)).filter fun y => decide (y = some r)).length : Int) = f.needs := by
  rw [cR_filter, F.wf.nb r f h, cb_onL]
  unfold refs cW
  rw [cR_app, cR_app]
end SW
end
section
/-! SwPut3: what the copying code leans on at each step. -/
namespace SW
theorem copyL_snoc (rooms : Int) (o : Int) : ∀ (os : List Int) (fs : Fs) (b : Option Int), copyL rooms fs b (os ++ [o]) =
    (pt (copyL rooms fs b os).1 (newRoom rooms (copyL rooms fs b os).1) ⟨(copyL rooms fs b os).2.1, sl (copyL rooms fs b os).1 o, 1⟩, some (newRoom rooms (copyL rooms fs b os).1), (copyL rooms fs b os).2.2 ++ [newRoom rooms (copyL rooms fs b os).1])
  | [], fs, b => rfl
  | a :: os, fs, b => by
    have ih := copyL_snoc rooms o os (pt fs (newRoom rooms fs) ⟨b, sl fs a, 1⟩) (some (newRoom rooms fs))
    show copyL rooms fs b (a :: (os ++ [o])) = _
    simp only [copyL]
    rw [ih]; rfl
structure CopyF (W : Wd) (q : List Int) (i : Nat) (b : Option Int) : Prop where
  eb : below W.frames (q.getD (q.length - 1) 0) = b
  deep : ∃ f, lk W.frames (q.getD (q.length - 1) 0) = some f ∧ f.below = b
  bin : ∀ r, b = some r → ∃ f, lk W.frames r = some f
  cop : ∀ j, Copies W.rooms (cW W) (wantF W.frames b) b ((q.drop i).reverse.take j) (copyL W.rooms (wantF W.frames b) b ((q.drop i).reverse.take j))
  room : ∀ j, j < (q.drop i).reverse.length → ((copyL W.rooms (wantF W.frames b) b ((q.drop i).reverse.take j)).1.length : Int) + 1 ≤ W.rooms
  old : ∀ j o, (q.drop i).reverse[j]? = some o → ∃ f, lk (copyL W.rooms (wantF W.frames b) b ((q.drop i).reverse.take j)).1 o = some f
  sh : ∃ g, lk (copyL W.rooms (wantF W.frames b) b (q.drop i).reverse).1 (q.getD i 0) = some g ∧ 1 < g.needs
  up : i ≠ 0 → ∃ g, lk (leave (copyL W.rooms (wantF W.frames b) b (q.drop i).reverse).1 (some (q.getD i 0))) (q.getD (i - 1) 0) = some g
theorem copyF {W : Wd} (F : WFW W) {h : Int} {d i : Nat} {l q : List Int} (el : path W.frames (top W h) = l) (hd : d < l.length) (eq : l.take (d + 1) = q) (hs : (sh W.frames q).head? = some i) (room : (W.frames.length : Int) + ((d : Int) - i + 1) ≤ W.rooms) : ∃ b, CopyF W q i b := by
  obtain ⟨si, sn, slt⟩ := sh_some hs
  have ql : q.length = d + 1 := by rw [← eq, List.length_take]; omega
  have qg : ∀ j, j ≤ d → q.getD j 0 = l.getD j 0 := fun j hj => by
    rw [List.getD_eq_getElem?_getD, List.getD_eq_getElem?_getD, ← eq, List.getElem?_take_of_lt (by omega)]
  have lg : ∀ j, j ≤ d → l[j]? = some (l.getD j 0) := fun j hj => by
    rw [List.getD_eq_getElem?_getD, List.getElem?_eq_getElem (by omega)]; rfl
  have hid : i ≤ d := by omega
  have p := F.tpath h
  rw [el] at p
  have qin : ∀ o ∈ q, ∃ f, lk W.frames o = some f := fun o ho => p.in o (by rw [← eq] at ho; exact List.mem_of_mem_take ho)
  have ea : q.getD (q.length - 1) 0 = l.getD d 0 := by rw [ql]; exact qg d (Nat.le_refl _)
  obtain ⟨fd, hfd⟩ := p.in (l.getD d 0) (List.mem_of_getElem? (lg d (Nat.le_refl _)))
  rw [← ea] at hfd
  have hbin : ∀ r, fd.below = some r → ∃ f, lk W.frames r = some f := fun r e => F.wf.bin _ fd r hfd e
  have w1 := F.wf.want fd.below hbin
  have kw := ks_want W.frames fd.below
  have lw : (wantF W.frames fd.below).length = W.frames.length := by rw [len_ks, kw, ← len_ks]
  have olen : (q.drop i).reverse.length = d - i + 1 := by rw [List.length_reverse, List.length_drop, ql]; omega
  have oin : ∀ o ∈ (q.drop i).reverse, ∃ f, lk (wantF W.frames fd.below) o = some f := fun o ho => by
    obtain ⟨f, hf⟩ := qin o (List.mem_of_mem_drop (List.mem_reverse.mp ho))
    obtain ⟨g, h1, _⟩ := want_in (x := fd.below) hf
    exact ⟨g, h1⟩
  have cop : ∀ j, Copies W.rooms (cW W) (wantF W.frames fd.below) fd.below ((q.drop i).reverse.take j) (copyL W.rooms (wantF W.frames fd.below) fd.below ((q.drop i).reverse.take j)) := fun j =>
    copyL_ok _ w1 (fun r hr => by rw [kw] at hr; exact F.rng r hr) (fun o ho => oin o (List.mem_of_mem_take ho)) (by rw [lw, List.length_take, olen]; omega)
  have oldW : ∀ j r f, lk W.frames r = some f → ∃ g, lk (copyL W.rooms (wantF W.frames fd.below) fd.below ((q.drop i).reverse.take j)).1 r = some g ∧ f.needs ≤ g.needs := fun j r f e => by
    obtain ⟨g, h1, _⟩ := want_in (x := fd.below) e
    refine ⟨g, (cop j).old r g h1, ?_⟩
    have a := F.wf.nb _ _ e
    have b := w1.nb _ _ h1
    have cbe : cb (wantF W.frames fd.below) r = cb W.frames r := by
      cases z : fd.below with
      | none => rfl
      | some y =>
        obtain ⟨fy, hy⟩ := hbin y z
        simp only [wantF, hy]
        exact cb_pt_same (v := { fy with needs := fy.needs + 1 }) hy rfl _
    rw [cbe] at b
    omega
  have full : (q.drop i).reverse.take (q.drop i).reverse.length = (q.drop i).reverse := List.take_length
  obtain ⟨fi, hfi⟩ := p.in (l.getD i 0) (List.mem_of_getElem? (lg i hid))
  have hsh : ∃ g, lk (copyL W.rooms (wantF W.frames fd.below) fd.below (q.drop i).reverse).1 (q.getD i 0) = some g ∧ 1 < g.needs := by
    obtain ⟨g, h1, h2⟩ := oldW (q.drop i).reverse.length _ fi hfi
    rw [full, ← qg i hid] at h1
    refine ⟨g, h1, ?_⟩
    rw [qg i hid, nd_of hfi] at sn
    omega
  refine ⟨fd.below, below_of hfd, ⟨fd, hfd, rfl⟩, hbin, cop, fun j hj => ?_, fun j o e => ?_, hsh, fun hi => ?_⟩
  · have C := cop j
    have := C.len
    rw [List.length_take] at this
    rw [len_ks, C.keys, List.length_append, ← len_ks, lw, this]
    rw [olen] at hj
    omega
  · obtain ⟨f, hf⟩ := qin o (List.mem_of_mem_drop (List.mem_reverse.mp (List.mem_of_getElem? e)))
    obtain ⟨g, h1, _⟩ := oldW j o f hf
    exact ⟨g, h1⟩
  · obtain ⟨g, h1, h2⟩ := hsh
    rw [leave_more h1 h2]
    obtain ⟨fp, hfp⟩ := p.in (l.getD (i - 1) 0) (List.mem_of_getElem? (lg (i - 1) (by omega)))
    obtain ⟨gp, h3, _⟩ := oldW (q.drop i).reverse.length _ fp hfp
    rw [full] at h3
    have pq : q.getD (i - 1) 0 ≠ q.getD i 0 := by
      rw [qg (i - 1) (by omega), qg i hid]
      exact nodup_ne p.nodup (lg (i - 1) (by omega)) (lg i hid) (by omega)
    refine ⟨gp, ?_⟩
    rw [lk_pt_ne pq, qg (i - 1) (by omega)]; exact h3
end SW
end
section
/-! SwKit: the rules with the written part named, so that a comprehension's reading does not lean on its frame. -/
namespace Sk
open PySem PySem.Spec PyProof.Rows L2
section
variable {X : Cx} {K : PySem.W.Frag} {e o : Expr} {f : Str} {pos : Pos} {ta te : TE}
theorem pe_fldK (K : PySem.W.Frag) (h : X.K = K) (he : PE X e ta) (hb : attributeBase e f X.env (eval e X.env) = eval e X.env) : PE X (.Attribute e f pos) (tFld K ta f) := by
  subst h; exact pe_fld he hb
theorem ix_listK (K : PySem.W.Frag) (h : X.K = K) : IxR X (rIxL K) := by subst h; exact ix_list
theorem ix_tupK (K : PySem.W.Frag) (h : X.K = K) : IxR X (rIxT K) := by subst h; exact ix_tup
def rLenK (K : PySem.W.Frag) : List V → Hp → VK → Prop := fun xs H Q => ∃ p ys, xs = [.ref p] ∧ (SqL K H p ys ∨ SqT K H p ys) ∧ Q (.int ys.length) H
theorem call_lenK (K : PySem.W.Frag) (h : X.K = K) : CallR X (.builtin "len") (rLenK K) := by subst h; exact call_len_seq
def rLenD : List V → Hp → VK → Prop := fun xs H Q => ∃ a kvs, xs = [V.ref a] ∧ H a = some (.dK kvs) ∧ Q (.int kvs.length) H
theorem call_lenDK : CallR X (.builtin "len") rLenD := call_lenD
def rListK (K : PySem.W.Frag) : List V → Hp → VK → Prop := fun xs H Q => ∃ p ys, xs = [.ref p] ∧ (SqL K H p ys ∨ SqT K H p ys) ∧ ∀ l, H l = none → Q (.ref l) (upd H l (.lst ys))
theorem call_listK (K : PySem.W.Frag) (h : X.K = K) : CallR X (.type "list") (rListK K) := by subst h; exact call_list_of
theorem op_in_seqK (K : PySem.W.Frag) (h : X.K = K) : OpR X (compareOp .In) (rIn K false) := by subst h; exact op_in_seq
theorem op_notIn_seqK (K : PySem.W.Frag) (h : X.K = K) : OpR X (compareOp .NotIn) (rIn K true) := by subst h; exact op_notIn_seq
theorem op_eqDK (K : PySem.W.Frag) (h : X.K = K) (hu : X.A.units + 64 < cLine) : OpR X (compareOp .Eq) (rEqD K) := by subst h; exact op_eqD hu
theorem op_neDK (K : PySem.W.Frag) (h : X.K = K) (hu : X.A.units + 64 < cLine) : OpR X (compareOp .NotEq) (rNeD K) := by subst h; exact op_neD hu
theorem sl_listK (K : PySem.W.Frag) (h : X.K = K) : SlR X (rSlL K) := by subst h; exact sl_list
theorem sl_tupK (K : PySem.W.Frag) (h : X.K = K) : SlR X (rSlT K) := by subst h; exact sl_tup
theorem op_catTK (K : PySem.W.Frag) (h : X.K = K) : OpR X (binaryOp .Add) (rCatT K) := by subst h; exact op_catT
theorem call_isiK (K : PySem.W.Frag) (h : X.K = K) : CallR X (.builtin "isinstance") (rIsi K) := by subst h; exact call_isi
variable {es : List Expr} {to : TE} {t : TA} {name : Str} {apos cpos : Pos} {T id : String} {r : V → List V → Hp → VK → Prop} {tg : Expr} {tl : TE}
theorem pi_listK (K : PySem.W.Frag) (h : X.K = K) {l : Expr} (hl : PE X l tl) : PI X tg l (iList K tl) := by subst h; exact pi_list hl
end
theorem yesT {σ : L2.St} {H : Hp} {A B : Prop} {Q : Bool → Hp → Prop} (e : Q true H = if true = true then A else B) (h : A) : tYes σ H Q := by
  show Q true H
  rw [e, if_pos rfl]; exact h
/-- a module's int -/
theorem pe_cst {X : Cx} {x : Str} {i : Int} {pos : Pos} (hm : ∃ t, X.mg x = some (.int i t)) (hg : Gl X x) (hd : (x == ("__debug__" : Str)) = false := by decide) : PE X (.Name x pos) (tC (.int i)) := by
  obtain ⟨t, e⟩ := hm
  exact pe_glob hg e ⟨t, rfl⟩ hd
/-! ### sorted of a dict with int keys, any number of them -/
def rSortD : List V → Hp → VK → Prop := fun xs H Q => ∃ (a : Addr) (kvs : List (Key × V)) (ks : List Int), xs = [.ref a] ∧ Rd H a (.dK kvs) ∧ kvs.map (·.1) = ks.map Sum.inl ∧ ks.length ≤ 10000 ∧
    ∀ (ys : List Int) (p : Addr), ys.Perm ks → ys.Pairwise (· ≤ ·) → H p = none → Q (.ref p) (upd H p (.lst (ys.map V.int)))
theorem call_sortedDA {X : Cx} (hcalm : X.calm = true) : CallR X (.builtin "sorted") rSortD := by
  rintro pins s σ H xs us Q I r ⟨a, kvs, ks, rfl, hd, hks, hz, q⟩
  obtain ⟨u, rfl, rx⟩ := vals1 r
  cases rx
  obtain ⟨z, lo, vs, rel, dd⟩ := dk_rd I.hok hd
  obtain ⟨ep, hat⟩ := dd.dictAt
  have hk : vs.map (·.1) = ks.map Sum.inl := rel.keys.symm.trans hks
  have hl : vs.length = ks.length := by
    simpa using congrArg List.length hk
  have hz' : ks.length ≤ sizeLine := by rw [sizeLine_eq]; omega
  refine Calls.call_function_entry kind_sorted plain_sorted entry_sorted (args_sorted1 _) ?_
  unfold Builtin.«sorted»
  refine wpAny_bind (m := checkCount "sorted" 1 1 _) (wpAny_pure ?_)
  refine wpAny_bind (PySem.W.kdu_collect (A := X.A.in1) (PySem.W.kdl_dict (knd := mixKind X.prog X.w) (kvs := vs) (ep := ep) lo) (I.ok.hd hcalm) hat (by rw [hl]; exact hz') fun h1 tk acc keep hacc => ?_)
  have ha : acc.toList.length = ks.length := by rw [Array.length_toList, hacc.1, hl]
  have hS : IntsAre acc.toList ks := ints_each ha fun j v e => by
    obtain ⟨k, x, e1, e2⟩ := hacc.2 j v (by rw [← Array.getElem?_toList]; exact e)
    have e3 : (vs.map (·.1))[j]? = some k := by simp [e1]
    rw [hk, List.getElem?_map] at e3
    cases e4 : ks[j]? with
    | none => simp [e4] at e3
    | some y =>
      have e5 : Sum.inl y = k := by simpa [e4] using e3
      subst e5
      rcases keyIs_shape (show keyIs (Sum.inl y) v = true from e2) with ⟨i, t, ek, ev⟩ | ⟨z, t, ek, ev⟩
      · cases ek; exact ⟨y, t, rfl, ev⟩
      · cases ek
  have J : Inv X pins σ H { s with heap := h1, toks := tk } := I.kept keep
  refine wpAny_bind (wpAny_newList ?_ (by rw [ha]; exact hz'))
  have ho : (h1.push (seqObj "list" acc.toList.toArray 0)).get? h1.objs.size = some (seqObj "list" acc.toList.toArray 0) := Heap.get?_push_size _ rfl
  show wpAny _ _ _ _ _ { s with heap := h1.push (seqObj "list" acc.toList.toArray 0), toks := tk }
  refine wpAny_bind (wpAny_holding (wpAny_call_entry slot_list_sort ⟨_, ho, rfl⟩ entry_list_sort
    (SrtO.list_sort_ord SrtO.swo_int ho (by rw [ha]; exact hz') (fun h2 => SrtO.ints_sortable hS h2) fun out g1 g2 => ⟨_, rfl, ?_⟩) (args_list_sort _)))
  obtain ⟨k1, k2, k3⟩ := SrtO.ints_out hS g1 g2
  obtain ⟨e', he'⟩ := sortedHeap_at (vs := acc.toList) (out := out.toArray) ho
  have hlen : ((out.map SrtO.iv).map V.int).length ≤ sizeLine := by
    rw [List.length_map, k2.length_eq]; exact hz'
  refine wpAny_pure ⟨_, rfl, .ref h1.objs.size, upd H h1.objs.size (.lst ((out.map SrtO.iv).map V.int)), J.laid (t' := tk) (fun b u e => ?_) (Nat.le_refl _) ⟨hlen, out, e', vals_of_ints k1, he'⟩, rfl, q _ _ k2 k3 (J.hok.fresh (Nat.le_refl _))⟩
  rw [sortedHeap_old (Nat.ne_of_lt (Heap.lt_size e)) (by simp only [Heap.size_push]; exact Nat.lt_succ_of_lt (Heap.lt_size e))]
  exact Heap.get?_push_of_some _ e
end Sk
end
section
/-! SwRep: how a wood stands in the heap; parts of a heap that move alone. -/
namespace Sk
open PySem PySem.Spec PyProof.Rows L2 SW
/-! ### a part A of the heap H is changed, all else stays -/
def Sub (A H : Hp) : Prop := ∀ b o, A b = some o → H b = some o
structure Stp (A H A' H' : Hp) : Prop where
  own : Sub A' H'
  oth : ∀ b o, H b = some o → A b = none → H' b = some o
  new : ∀ b, A b = none → A' b ≠ none → H b = none
theorem Stp.refl {A H : Hp} (h : Sub A H) : Stp A H A H := ⟨h, fun _ _ e _ => e, fun b e n => absurd e n⟩
theorem Stp.trans {A H A1 H1 A2 H2 : Hp} (a : Stp A H A1 H1) (b : Stp A1 H1 A2 H2) : Stp A H A2 H2 where
  own := b.own
  oth := fun c o e n => by
    have e1 := a.oth c o e n
    cases q : A1 c with
    | none => exact b.oth c o e1 q
    | some u =>
      have := a.new c n (by rw [q]; simp)
      rw [e] at this; cases this
  new := fun c n m => by
    cases q : A1 c with
    | none =>
      have := b.new c q m
      cases r : H c with
      | none => rfl
      | some o => rw [a.oth c o r n] at this; cases this
    | some u => exact a.new c n (by rw [q]; simp)
theorem Stp.upd {A H A' H' : Hp} (s : Stp A H A' H') {a : Addr} {u : HO} (h : A' a = some u) (o : HO) : Stp A H (L2.upd A' a o) (L2.upd H' a o) where
  own := fun b v e => by
    by_cases z : b = a
    · subst z; rw [upd_same] at e ⊢; exact e
    · rw [upd_ne z] at e ⊢; exact s.own b v e
  oth := fun b v e n => by
    have z : b ≠ a := fun z => by
      subst z
      have := s.new b n (by rw [h]; simp)
      rw [e] at this; cases this
    rw [upd_ne z]; exact s.oth b v e n
  new := fun b n m => by
    by_cases z : b = a
    · subst z; exact s.new b n (by rw [h]; simp)
    · rw [upd_ne z] at m; exact s.new b n m
theorem Stp.free {A H A' H' : Hp} (s : Stp A H A' H') {a : Addr} (h : H' a = none) : A' a = none := by
  cases q : A' a with
  | none => rfl
  | some u => rw [s.own a u q] at h; cases h
theorem Stp.free0 {A H A' H' : Hp} (s : Stp A H A' H') (hs : Sub A H) {a : Addr} (h : H' a = none) (h2 : A' a = none) : A a = none → H a = none := fun n => by
  cases q : H a with
  | none => rfl
  | some u => rw [s.oth a u q n] at h; cases h
theorem Stp.new' {A H A' H' : Hp} (s : Stp A H A' H') {a : Addr} (h : H' a = none) (o : HO) : Stp A H (L2.upd A' a o) (L2.upd H' a o) where
  own := fun b v e => by
    by_cases z : b = a
    · subst z; rw [upd_same] at e ⊢; exact e
    · rw [upd_ne z] at e ⊢; exact s.own b v e
  oth := fun b v e n => by
    have e1 := s.oth b v e n
    rw [upd_ne (ne_of_none e1 h)]; exact e1
  new := fun b n m => by
    by_cases z : b = a
    · subst z
      cases q : H b with
      | none => rfl
      | some u => rw [s.oth b u q n] at h; cases h
    · rw [upd_ne z] at m; exact s.new b n m
/-- a new object that is nobody's -/
theorem Stp.gar {A H A' H' : Hp} (s : Stp A H A' H') {a : Addr} (h : H' a = none) (o : HO) : Stp A H A' (L2.upd H' a o) where
  own := fun b v e => by
    have e1 := s.own b v e
    rw [upd_ne (ne_of_none e1 h)]; exact e1
  oth := fun b v e n => by
    have e1 := s.oth b v e n
    rw [upd_ne (ne_of_none e1 h)]; exact e1
  new := s.new
/-- an object that isn't the part's is changed, and was new -/
theorem Stp.gars {A H A' H' : Hp} (s : Stp A H A' H') {a : Addr} (h : H a = none) (h2 : A' a = none) (o : HO) : Stp A H A' (L2.upd H' a o) where
  own := fun b v e => by
    have z : b ≠ a := fun z => by subst z; rw [h2] at e; cases e
    rw [upd_ne z]; exact s.own b v e
  oth := fun b v e n => by
    rw [upd_ne (ne_of_none e h)]; exact s.oth b v e n
  new := s.new
theorem Stp.same {A H A' H' H2 : Hp} (s : Stp A H A' H') (k : Same H' H2) : Stp A H A' H2 where
  own := fun b v e => k _ _ (s.own b v e)
  oth := fun b v e n => k _ _ (s.oth b v e n)
  new := s.new
theorem same_new {H : Hp} {a : Addr} (h : H a = none) (o : HO) : Same H (upd H a o) := fun b v e => by
  rw [upd_ne (ne_of_none e h)]; exact e

/-! ### the wood -/
def oV : Option Int → V
  | none => .non
  | some r => .int r
theorem oV_inj {a b : Option Int} (h : oV a = oV b) : a = b := by
  cases a <;> cases b <;> simp_all [oV]
abbrev wK (K : PySem.W.Frag) : Addr := He.ga K "Wood"
abbrev fK (K : PySem.W.Frag) : Addr := He.ga K "Frame"
def wF (W : Wd) (fa ta ma : Addr) : List (Str × V) := [("rooms", .int W.rooms), ("frames", .ref fa), ("tops", .ref ta), ("marks", .ref ma), ("many", .int W.many), ("made", .int W.made)]
def fF (f : Fr) (s : Addr) : List (Str × V) := [("below", oV f.below), ("slots", .ref s), ("needs", .int f.needs)]
def frV (fo : Int → Addr) (fs : Fs) : List (Key × V) := fs.map fun q => (Sum.inl q.1, V.ref (fo q.1))
def mkV (m : List (Int × Option Int)) : List (Key × V) := m.map fun q => (Sum.inl q.1, oV q.2)
/-- where the parts of a wood stand -/
structure Ad where
  p : Addr
  dx : Addr
  fa : Addr
  ta : Addr
  ma : Addr
  fo : Int → Addr
  so : Int → Addr
  fd : Int → Addr
structure WA (K : PySem.W.Frag) (A : Hp) (x : Ad) (W : Wd) : Prop where
  ins : A x.p = some (.ins (wK K) x.dx (wF W x.fa x.ta x.ma))
  frs : A x.fa = some (.dK (frV x.fo W.frames))
  tps : A x.ta = some (.lst (W.tops.map oV))
  mks : A x.ma = some (.dK (mkV W.marks))
  fr : ∀ r f, lk W.frames r = some f → A (x.fo r) = some (.ins (fK K) (x.fd r) (fF f (x.so r)))
  sl : ∀ r f, lk W.frames r = some f → A (x.so r) = some (.lst (f.slots.map V.int))
  fi : ∀ r s f g, lk W.frames r = some f → lk W.frames s = some g → x.fo r = x.fo s → r = s
  si : ∀ r s f g, lk W.frames r = some f → lk W.frames s = some g → x.so r = x.so s → r = s
  st : ∀ r f, lk W.frames r = some f → x.so r ≠ x.ta
  dm : x.fa ≠ x.ma
  pf : ∀ r f, lk W.frames r = some f → x.fo r ≠ x.p

/-! ### dicts -/
theorem valV_fr (fo : Int → Addr) (fs : Fs) (r : Int) : valV (frV fo fs) (Sum.inl r) = (lk fs r).map fun _ => V.ref (fo r) := by
  induction fs with
  | nil => rfl
  | cons p l ih =>
    obtain ⟨j, a⟩ := p
    by_cases e : j = r
    · subst e
      simp [frV, lk, valV]
    · have z : valV (frV fo ((j, a) :: l)) (Sum.inl r) = valV (frV fo l) (Sum.inl r) := valV_neg (p := (Sum.inl j, V.ref (fo j))) (by simpa using e)
      rw [z, ih]; simp [lk, e]
theorem valV_mk (m : List (Int × Option Int)) (r : Int) : valV (mkV m) (Sum.inl r) = (lk m r).map oV := by
  induction m with
  | nil => rfl
  | cons p l ih =>
    obtain ⟨j, a⟩ := p
    by_cases e : j = r
    · subst e
      simp [mkV, lk, valV]
    · have z : valV (mkV ((j, a) :: l)) (Sum.inl r) = valV (mkV l) (Sum.inl r) := valV_neg (p := (Sum.inl j, oV a)) (by simpa using e)
      rw [z, ih]; simp [lk, e]
theorem dropK_fr (fo : Int → Addr) (fs : Fs) (r : Int) : dropK (frV fo fs) (Sum.inl r) = frV fo (dr fs r) := by
  unfold dropK frV dr
  rw [List.filter_map]
  congr 1
  apply List.filter_congr
  intro q _
  simp
theorem dropK_mk (m : List (Int × Option Int)) (r : Int) : dropK (mkV m) (Sum.inl r) = mkV (dr m r) := by
  unfold dropK mkV dr
  rw [List.filter_map]
  congr 1
  apply List.filter_congr
  intro q _
  simp
theorem putK_fr {fo : Int → Addr} {fs : Fs} {r : Int} (x : Addr) (f : Fr) (h : lk fs r = none) : putK (frV fo fs) (Sum.inl r) (.ref x) = frV (fun k => if k = r then x else fo k) (pt fs r f) := by
  rw [putK_new _ (by rw [valV_fr, h]; rfl), pt_new h]
  unfold frV
  rw [List.map_append]
  congr 1
  · refine List.map_congr_left fun q hq => ?_
    have : q.1 ≠ r := fun z => by
      have : q.1 ∈ ks fs := List.mem_map.mpr ⟨q, hq, rfl⟩
      rw [z] at this
      exact not_mem_ks.mpr h this
    simp [this]
  · simp
theorem putK_mk {m : List (Int × Option Int)} {r : Int} (v : Option Int) (h : lk m r = none) : putK (mkV m) (Sum.inl r) (oV v) = mkV (pt m r v) := by
  rw [putK_new _ (by rw [valV_mk, h]; rfl), pt_new h]
  unfold mkV
  rw [List.map_append]; rfl
theorem frV_pt {fo : Int → Addr} {fs : Fs} {r : Int} {f g : Fr} (h : lk fs r = some f) : frV fo (pt fs r g) = frV fo fs := by
  have e := ks_pt_old (v := g) (mem_ks.mpr ⟨f, h⟩)
  have z : ∀ l : Fs, frV fo l = (ks l).map fun k => (Sum.inl k, V.ref (fo k)) := fun l => by unfold frV ks; rw [List.map_map]; rfl
  rw [z, z, e]
theorem frV_len (fo : Int → Addr) (fs : Fs) : (frV fo fs).length = fs.length := by unfold frV; rw [List.length_map]
theorem mkV_len (m : List (Int × Option Int)) : (mkV m).length = m.length := by unfold mkV; rw [List.length_map]

/-! ### moves -/
section
variable {K : PySem.W.Frag} {A : Hp} {x : Ad} {W : Wd}
/-- a frame's fields -/
theorem WA.setFr (R : WA K A x W) {r : Int} {f : Fr} (h : lk W.frames r = some f) (b : Option Int) (n : Int) : WA K (upd A (x.fo r) (.ins (fK K) (x.fd r) (fF { f with below := b, needs := n } (x.so r)))) x { W with frames := pt W.frames r { f with below := b, needs := n } } := by
  have e := R.fr r f h
  have look : ∀ k g, lk (pt W.frames r { f with below := b, needs := n }) k = some g → ∃ f', lk W.frames k = some f' ∧ g.slots = f'.slots := fun k g hk => by
    by_cases z : k = r
    · subst z; rw [lk_pt_same] at hk; cases hk; exact ⟨f, h, rfl⟩
    · rw [lk_pt_ne z] at hk; exact ⟨g, hk, rfl⟩
  refine ⟨?_, ?_, ?_, ?_, fun k g hk => ?_, fun k g hk => ?_, fun k s g g' hk hs => ?_, fun k s g g' hk hs => ?_, fun k g hk => ?_, R.dm, fun k g hk => ?_⟩
  · rw [upd_ne (fun z => R.pf r f h z.symm)]; exact R.ins
  · rw [upd_ne (ne_of R.frs e (by intro z; cases z))]
    show A x.fa = some (.dK (frV x.fo (pt W.frames r { f with below := b, needs := n })))
    rw [frV_pt h]; exact R.frs
  · rw [upd_ne (ne_of R.tps e (by intro z; cases z))]; exact R.tps
  · rw [upd_ne (ne_of R.mks e (by intro z; cases z))]; exact R.mks
  · by_cases z : k = r
    · subst z
      have hk' : lk (pt W.frames k { f with below := b, needs := n }) k = some g := hk
      rw [lk_pt_same] at hk'; cases hk'
      rw [upd_same]
    · have hk' : lk (pt W.frames r { f with below := b, needs := n }) k = some g := hk
      rw [lk_pt_ne z] at hk'
      rw [upd_ne (fun w => z (R.fi _ _ _ _ hk' h w))]
      exact R.fr k g hk'
  · obtain ⟨f', h1, h2⟩ := look k g hk
    have := R.sl k f' h1
    rw [upd_ne (ne_of this e (by intro z; cases z)), h2]; exact this
  · obtain ⟨f1, h1, _⟩ := look k g hk
    obtain ⟨f2, h2, _⟩ := look s g' hs
    exact R.fi k s f1 f2 h1 h2
  · obtain ⟨f1, h1, _⟩ := look k g hk
    obtain ⟨f2, h2, _⟩ := look s g' hs
    exact R.si k s f1 f2 h1 h2
  · obtain ⟨f1, h1, _⟩ := look k g hk
    exact R.st k f1 h1
  · obtain ⟨f1, h1, _⟩ := look k g hk
    exact R.pf k f1 h1
/-- a call's values -/
theorem WA.setSl (R : WA K A x W) {r : Int} {f : Fr} (h : lk W.frames r = some f) (zs : List Int) : WA K (upd A (x.so r) (.lst (zs.map V.int))) x { W with frames := pt W.frames r { f with slots := zs } } := by
  have e := R.sl r f h
  have look : ∀ k g, lk (pt W.frames r { f with slots := zs }) k = some g → ∃ f', lk W.frames k = some f' ∧ g.below = f'.below ∧ g.needs = f'.needs := fun k g hk => by
    by_cases z : k = r
    · subst z; rw [lk_pt_same] at hk; cases hk; exact ⟨f, h, rfl, rfl⟩
    · rw [lk_pt_ne z] at hk; exact ⟨g, hk, rfl, rfl⟩
  refine ⟨?_, ?_, ?_, ?_, fun k g hk => ?_, fun k g hk => ?_, fun k s g g' hk hs => ?_, fun k s g g' hk hs => ?_, fun k g hk => ?_, R.dm, fun k g hk => ?_⟩
  · rw [upd_ne (ne_of R.ins e (by intro z; cases z))]; exact R.ins
  · rw [upd_ne (ne_of R.frs e (by intro z; cases z))]
    show A x.fa = some (.dK (frV x.fo (pt W.frames r { f with slots := zs })))
    rw [frV_pt h]; exact R.frs
  · rw [upd_ne (fun z => R.st r f h z.symm)]; exact R.tps
  · rw [upd_ne (ne_of R.mks e (by intro z; cases z))]; exact R.mks
  · obtain ⟨f', h1, h2, h3⟩ := look k g hk
    have := R.fr k f' h1
    rw [upd_ne (ne_of this e (by intro z; cases z))]
    have ee : fF g (x.so k) = fF f' (x.so k) := by unfold fF; rw [h2, h3]
    rw [ee]; exact this
  · have hk' : lk (pt W.frames r { f with slots := zs }) k = some g := hk
    by_cases z : k = r
    · subst z
      rw [lk_pt_same] at hk'; cases hk'
      rw [upd_same]
    · rw [lk_pt_ne z] at hk'
      rw [upd_ne (fun w => z (R.si _ _ _ _ hk' h w))]
      exact R.sl k g hk'
  · obtain ⟨f1, h1, _⟩ := look k g hk
    obtain ⟨f2, h2, _⟩ := look s g' hs
    exact R.fi k s f1 f2 h1 h2
  · obtain ⟨f1, h1, _⟩ := look k g hk
    obtain ⟨f2, h2, _⟩ := look s g' hs
    exact R.si k s f1 f2 h1 h2
  · obtain ⟨f1, h1, _⟩ := look k g hk
    exact R.st k f1 h1
  · obtain ⟨f1, h1, _⟩ := look k g hk
    exact R.pf k f1 h1
/-- a room is given back -/
theorem WA.pop (R : WA K A x W) (r : Int) : WA K (upd A x.fa (.dK (frV x.fo (dr W.frames r)))) x { W with frames := dr W.frames r } := by
  have look : ∀ k g, lk (dr W.frames r) k = some g → lk W.frames k = some g := fun k g hk => by
    rw [lk_dr] at hk
    split at hk
    · cases hk
    · exact hk
  refine ⟨?_, upd_same, ?_, ?_, fun k g hk => ?_, fun k g hk => ?_, fun k s g g' hk hs => R.fi k s g g' (look k g hk) (look s g' hs), fun k s g g' hk hs => R.si k s g g' (look k g hk) (look s g' hs), fun k g hk => R.st k g (look k g hk), R.dm, fun k g hk => R.pf k g (look k g hk)⟩
  · rw [upd_ne (ne_of R.ins R.frs (by intro z; cases z))]; exact R.ins
  · rw [upd_ne (ne_of R.tps R.frs (by intro z; cases z))]; exact R.tps
  · rw [upd_ne (fun z => R.dm z.symm)]; exact R.mks
  · have := R.fr k g (look k g hk)
    rw [upd_ne (ne_of this R.frs (by intro z; cases z))]; exact this
  · have := R.sl k g (look k g hk)
    rw [upd_ne (ne_of this R.frs (by intro z; cases z))]; exact this
/-- the hands' last calls -/
theorem WA.setTops (R : WA K A x W) (ts : List (Option Int)) : WA K (upd A x.ta (.lst (ts.map oV))) x { W with tops := ts } := by
  refine ⟨?_, ?_, upd_same, ?_, fun k g hk => ?_, fun k g hk => ?_, R.fi, R.si, R.st, R.dm, R.pf⟩
  · rw [upd_ne (ne_of R.ins R.tps (by intro z; cases z))]; exact R.ins
  · rw [upd_ne (ne_of R.frs R.tps (by intro z; cases z))]; exact R.frs
  · rw [upd_ne (ne_of R.mks R.tps (by intro z; cases z))]; exact R.mks
  · have := R.fr k g hk
    rw [upd_ne (ne_of this R.tps (by intro z; cases z))]; exact this
  · rw [upd_ne (R.st k g hk)]; exact R.sl k g hk
/-- the kept places -/
theorem WA.setMarks (R : WA K A x W) (ms : List (Int × Option Int)) : WA K (upd A x.ma (.dK (mkV ms))) x { W with marks := ms } := by
  refine ⟨?_, ?_, ?_, upd_same, fun k g hk => ?_, fun k g hk => ?_, R.fi, R.si, R.st, R.dm, R.pf⟩
  · rw [upd_ne (ne_of R.ins R.mks (by intro z; cases z))]; exact R.ins
  · rw [upd_ne R.dm]; exact R.frs
  · rw [upd_ne (ne_of R.tps R.mks (by intro z; cases z))]; exact R.tps
  · have := R.fr k g hk
    rw [upd_ne (ne_of this R.mks (by intro z; cases z))]; exact this
  · have := R.sl k g hk
    rw [upd_ne (ne_of this R.mks (by intro z; cases z))]; exact this
/-- the wood's own numbers -/
theorem WA.setNums (R : WA K A x W) (many made : Int) : WA K (upd A x.p (.ins (wK K) x.dx (wF { W with many := many, made := made } x.fa x.ta x.ma))) x { W with many := many, made := made } := by
  refine ⟨upd_same, ?_, ?_, ?_, fun k g hk => ?_, fun k g hk => ?_, R.fi, R.si, R.st, R.dm, R.pf⟩
  · rw [upd_ne (ne_of R.frs R.ins (by intro z; cases z))]; exact R.frs
  · rw [upd_ne (ne_of R.tps R.ins (by intro z; cases z))]; exact R.tps
  · rw [upd_ne (ne_of R.mks R.ins (by intro z; cases z))]; exact R.mks
  · rw [upd_ne (R.pf k g hk)]; exact R.fr k g hk
  · have := R.sl k g hk
    rw [upd_ne (ne_of this R.ins (by intro z; cases z))]; exact this
/-- a new frame at the new address y, its list at s -/
theorem WA.newFr (R : WA K A x W) {r : Int} (h : lk W.frames r = none) {y s d : Addr} (ny : A y = none) (ns : A s = none) (sy : s ≠ y) (f : Fr) :
    WA K (upd (upd (upd A s (.lst (f.slots.map V.int))) y (.ins (fK K) d (fF f s))) x.fa (.dK (frV (fun k => if k = r then y else x.fo k) (pt W.frames r f))))
      { x with fo := fun k => if k = r then y else x.fo k, so := fun k => if k = r then s else x.so k, fd := fun k => if k = r then d else x.fd k } { W with frames := pt W.frames r f } := by
  have nyf := ne_of_none R.frs ny
  have nsf := ne_of_none R.frs ns
  have look : ∀ k g, k ≠ r → lk (pt W.frames r f) k = some g → lk W.frames k = some g := fun k g z hk => by
    rw [lk_pt_ne z] at hk; exact hk
  have old : ∀ {b : Addr} {o : HO}, A b = some o → b ≠ x.fa → upd (upd (upd A s (.lst (f.slots.map V.int))) y (.ins (fK K) d (fF f s))) x.fa (.dK (frV (fun k => if k = r then y else x.fo k) (pt W.frames r f))) b = some o := fun {b o} e n => by
    rw [upd_ne n, upd_ne (ne_of_none e ny), upd_ne (ne_of_none e ns)]; exact e
  refine ⟨?_, upd_same, ?_, ?_, fun k g hk => ?_, fun k g hk => ?_, fun k l g g' hk hl e => ?_, fun k l g g' hk hl e => ?_, fun k g hk => ?_, R.dm, fun k g hk => ?_⟩
  · exact old R.ins (ne_of R.ins R.frs (by intro z; cases z))
  · exact old R.tps (ne_of R.tps R.frs (by intro z; cases z))
  · exact old R.mks (fun z => R.dm z.symm)
  · by_cases z : k = r
    · subst z
      have hk' : lk (pt W.frames k f) k = some g := hk
      rw [lk_pt_same] at hk'; cases hk'
      simp only [if_true]
      rw [upd_ne nyf.symm, upd_same]
    · have hk' := look k g z hk
      simp only [if_neg z]
      exact old (R.fr k g hk') (ne_of (R.fr k g hk') R.frs (by intro z; cases z))
  · by_cases z : k = r
    · subst z
      have hk' : lk (pt W.frames k f) k = some g := hk
      rw [lk_pt_same] at hk'; cases hk'
      simp only [if_true]
      rw [upd_ne nsf.symm, upd_ne sy, upd_same]
    · have hk' := look k g z hk
      simp only [if_neg z]
      exact old (R.sl k g hk') (ne_of (R.sl k g hk') R.frs (by intro z; cases z))
  · by_cases z : k = r
    · by_cases z2 : l = r
      · rw [z, z2]
      · have h2 := look l g' z2 hl
        simp only [if_pos z, if_neg z2] at e
        have := R.fr l g' h2
        rw [← e, ny] at this; cases this
    · have h1 := look k g z hk
      by_cases z2 : l = r
      · simp only [if_pos z2, if_neg z] at e
        have := R.fr k g h1
        rw [e, ny] at this; cases this
      · have h2 := look l g' z2 hl
        simp only [if_neg z, if_neg z2] at e
        exact R.fi k l g g' h1 h2 e
  · by_cases z : k = r
    · by_cases z2 : l = r
      · rw [z, z2]
      · have h2 := look l g' z2 hl
        simp only [if_pos z, if_neg z2] at e
        have := R.sl l g' h2
        rw [← e, ns] at this; cases this
    · have h1 := look k g z hk
      by_cases z2 : l = r
      · simp only [if_pos z2, if_neg z] at e
        have := R.sl k g h1
        rw [e, ns] at this; cases this
      · have h2 := look l g' z2 hl
        simp only [if_neg z, if_neg z2] at e
        exact R.si k l g g' h1 h2 e
  · by_cases z : k = r
    · simp only [if_pos z]
      exact fun w => ne_of_none R.tps ns w.symm
    · simp only [if_neg z]
      exact R.st k g (look k g z hk)
  · by_cases z : k = r
    · simp only [if_pos z]
      exact fun w => ne_of_none R.ins ny w.symm
    · simp only [if_neg z]
      exact R.pf k g (look k g z hk)
end
end Sk
end
section
/-! SwM1: the small methods of a wood keep their promises. -/
namespace Sk
open PySem PySem.Spec PyProof.Rows L2 SW
abbrev aW (K : PySem.W.Frag) (m : Str) : Addr := He.fAd K ("Wood", some m)
abbrev aF (K : PySem.W.Frag) (m : Str) : Addr := He.fAd K ("Frame", some m)
abbrev eC (K : PySem.W.Frag) (x : Str) : Value := .ref (He.ga K x)
/-! ### lookups -/
theorem lt1000 {n : Nat} (h : n ≤ 100) : n < 1000 := by omega
theorem sz {n : Nat} (h : n ≤ 100000) : n ≤ sizeLine := by rw [sizeLine_eq]; omega
theorem szl {n : Nat} (h : n ≤ 100000) : n < sizeLine := by rw [sizeLine_eq]; omega
section
variable {W : Wd} {fa ta ma s : Addr} {f : Fr}
theorem wf_rooms : (wF W fa ta ma).lookup ("rooms" : Str) = some (V.int W.rooms) := rfl
theorem wf_frames : (wF W fa ta ma).lookup ("frames" : Str) = some (V.ref fa) := rfl
theorem wf_tops : (wF W fa ta ma).lookup ("tops" : Str) = some (V.ref ta) := rfl
theorem wf_marks : (wF W fa ta ma).lookup ("marks" : Str) = some (V.ref ma) := rfl
theorem wf_many : (wF W fa ta ma).lookup ("many" : Str) = some (V.int W.many) := rfl
theorem wf_made : (wF W fa ta ma).lookup ("made" : Str) = some (V.int W.made) := rfl
theorem ff_below : (fF f s).lookup ("below" : Str) = some (oV f.below) := rfl
theorem ff_slots : (fF f s).lookup ("slots" : Str) = some (V.ref s) := rfl
theorem ff_needs : (fF f s).lookup ("needs" : Str) = some (V.int f.needs) := rfl
end
theorem upd_back {H : Hp} {y l : Addr} {a b L : HO} (n : y ≠ l) : upd (upd (upd H y a) l L) y b = upd (upd H l L) y b := by
  funext c
  by_cases h : c = y
  · subst h; rw [upd_same, upd_same]
  · rw [upd_ne h, upd_ne h]
    by_cases h2 : c = l
    · subst h2; rw [upd_same, upd_same]
    · rw [upd_ne h2, upd_ne h2, upd_ne h]
theorem take_snoc {l : List Int} {i : Nat} {a : Int} (h : l[i]? = some a) : l.take (i + 1) = l.take i ++ [a] := by
  rw [List.take_add_one, h]; rfl
/-! ### the promises -/
section
variable (K : PySem.W.Frag)
def spNeedHand : Sp := fun vs H Q E => ∃ (A : Hp) (x : Ad) (W : Wd) (h : Int), vs = [.ref x.p, .int h] ∧ Sub A H ∧ WA K A x W ∧ (hOk W h → Q .non H) ∧ (¬ hOk W h → E (eC K "NoHand") none H)
def spNeedPlace : Sp := fun vs H Q E => ∃ (A : Hp) (x : Ad) (W : Wd) (p : Int), vs = [.ref x.p, .int p] ∧ Sub A H ∧ WA K A x W ∧ (∀ y, lk W.marks p = some y → Q .non H) ∧ (lk W.marks p = none → E (eC K "NoPlace") none H)
def spNeedFree : Sp := fun vs H Q E => ∃ (A : Hp) (x : Ad) (W : Wd) (n : Int), vs = [.ref x.p, .int n] ∧ Sub A H ∧ WA K A x W ∧ ((W.frames.length : Int) + n ≤ W.rooms → Q .non H) ∧ (W.rooms < (W.frames.length : Int) + n → E (eC K "NoRoom") none H)
def spHands : Sp := fun vs H Q _ => ∃ (A : Hp) (x : Ad) (W : Wd), vs = [.ref x.p] ∧ Sub A H ∧ WA K A x W ∧ Q (.int W.tops.length) H
def spCopies : Sp := fun vs H Q _ => ∃ (A : Hp) (x : Ad) (W : Wd), vs = [.ref x.p] ∧ Sub A H ∧ WA K A x W ∧ Q (.int W.made) H
def spPath : Sp := fun vs H Q _ => ∃ (A : Hp) (x : Ad) (W : Wd) (r : Option Int) (l : List Int), vs = [.ref x.p, oV r] ∧ Sub A H ∧ WA K A x W ∧ Path W.frames r l ∧ l.length ≤ 1000 ∧ ∀ p, H p = none → Q (.ref p) (upd H p (.lst (l.map V.int)))
def spNewRoom : Sp := fun vs H Q _ => ∃ (A : Hp) (x : Ad) (W : Wd), vs = [.ref x.p] ∧ Sub A H ∧ WA K A x W ∧ W.rooms ≤ 40 ∧ newRoom W.rooms W.frames ∈ freeR W.rooms W.frames ∧ ∀ H', Same H H' → Q (.int (newRoom W.rooms W.frames)) H'
def spWant : Sp := fun vs H Q _ => ∃ (A : Hp) (x : Ad) (W : Wd) (r : Option Int), vs = [.ref x.p, oV r] ∧ Sub A H ∧ WA K A x W ∧ (∀ k, r = some k → ∃ f, lk W.frames k = some f) ∧ ∀ A' H', WA K A' x { W with frames := wantF W.frames r } → Stp A H A' H' → Q .non H'
def spLeave : Sp := fun vs H Q _ => ∃ (A : Hp) (x : Ad) (W : Wd) (r : Option Int) (gs : Fs), vs = [.ref x.p, oV r] ∧ Sub A H ∧ WA K A x W ∧ Leave W.frames r gs ∧ (ks W.frames).Nodup ∧ ∀ A' H', WA K A' x { W with frames := gs } → Stp A H A' H' → Q .non H'
def spFrame : Sp := fun vs H Q _ => ∃ (y dx s : Addr) (b : Option Int) (zs : List Int), vs = [.ref y, oV b, .ref s] ∧ H y = some (.ins (fK K) dx []) ∧ SqL K H s (zs.map V.int) ∧ ∀ l, H l = none → Q .non (upd (upd H l (.lst (zs.map V.int))) y (.ins (fK K) dx (fF ⟨b, zs, 1⟩ l)))
end
section
variable {P : Program} {w : World} {K : PySem.W.Frag} {mg : Str → Option Value} {base : Heap}
theorem ok_Wood_need_hand (T : Txt K mg) : FnOk P w K mg base (L2.CX P w) 1 (aW K "need_hand") (fdOf K (aW K "need_hand")) ["self", "hand"] (spNeedHand K) := by
  refine T.F_Wood_need_hand.ok (CX := L2.CX P w) sc_Wood_need_hand (fun vs H Q E h => ?_) (fun cdv A outer s H vs Q E hr h => ?_)
  · obtain ⟨_, _, _, _, rfl, _⟩ := h; rfl
  · obtain ⟨A, x, W, h, rfl, s0, R, hy, hn⟩ := h
    refine ⟨_, (pss_one (ps_if (pt_not (pt_chain op_le op_lt pe_int (pv 1) (pe_callB (call_lenK K rfl) rfl T.n_len PySem.boot_len (pa_cons (pe_fldK K rfl (pv 0) rfl) pa_nil)))) (pss_one (ps_raise rfl (takes_of rfl rfl rfl rfl) (pmk_own PySem.F.excBase_ValueError T.x_NoHand.1 T.g_NoHand T.x_NoHand.2.1 (raises_own T.x_NoHand.2.2.1 T.x_NoHand.2.2.2) rfl))) pss_nil)), ?_⟩
    have hp := s0 _ _ R.ins
    refine ⟨_, rfl, _, _, rfl, rfl, _, rfl, ?_⟩
    by_cases h0 : 0 ≤ h
    · rw [decide_eq_true h0]
      refine iteT ⟨_, rfl, x.p, _, _, _, _, rfl, hp, T.cl_Wood, T.a_tops, wf_tops, x.ta, _, rfl, .inl (SqL.of (s0 _ _ R.tps)), _, _, rfl, rfl, _, rfl, ?_⟩
      rw [List.length_map]
      by_cases h1 : h < (W.tops.length : Int)
      · rw [decide_eq_true h1]; exact iteF (hy ⟨h0, h1⟩)
      · rw [decide_eq_false h1]; exact iteT (hn fun z => h1 z.2)
    · rw [decide_eq_false h0]
      exact iteF ⟨_, rfl, iteT (hn fun z => h0 z.1)⟩
theorem ok_Wood_need_place (T : Txt K mg) : FnOk P w K mg base (L2.CX P w) 1 (aW K "need_place") (fdOf K (aW K "need_place")) ["self", "place"] (spNeedPlace K) := by
  refine T.F_Wood_need_place.ok (CX := L2.CX P w) sc_Wood_need_place (fun vs H Q E h => ?_) (fun cdv A outer s H vs Q E hr h => ?_)
  · obtain ⟨_, _, _, _, rfl, _⟩ := h; rfl
  · obtain ⟨A, x, W, p, rfl, s0, R, hy, hn⟩ := h
    refine ⟨_, (pss_one (ps_if (pt_cmp (pc_dnotin (hu_of hr) (pv 1) (pe_fldK K rfl (pv 0) rfl))) (pss_one (ps_raise rfl (takes_of rfl rfl rfl rfl) (pmk_own PySem.F.excBase_ValueError T.x_NoPlace.1 T.g_NoPlace T.x_NoPlace.2.1 (raises_own T.x_NoPlace.2.2.1 T.x_NoPlace.2.2.2) rfl))) pss_nil)), ?_⟩
    have hp := s0 _ _ R.ins
    refine ⟨_, rfl, _, rfl, x.p, _, _, _, _, rfl, hp, T.cl_Wood, T.a_marks, wf_marks, x.ma, _, rfl, DGet.k (k := Sum.inl p) (s0 _ _ R.mks), _, rfl, ?_⟩
    rw [valV_mk]
    cases e : lk W.marks p with
    | none => exact iteT (hn e)
    | some y => exact iteF (hy y e)
theorem ok_Wood_need_free (T : Txt K mg) : FnOk P w K mg base (L2.CX P w) 1 (aW K "need_free") (fdOf K (aW K "need_free")) ["self", "many"] (spNeedFree K) := by
  refine T.F_Wood_need_free.ok (CX := L2.CX P w) sc_Wood_need_free (fun vs H Q E h => ?_) (fun cdv A outer s H vs Q E hr h => ?_)
  · obtain ⟨_, _, _, _, rfl, _⟩ := h; rfl
  · obtain ⟨A, x, W, n, rfl, s0, R, hy, hn⟩ := h
    refine ⟨_, (pss_one (ps_if (pt_cmpR op_gt (pe_op op_add (pe_callB call_lenDK rfl T.n_len PySem.boot_len (pa_cons (pe_fldK K rfl (pv 0) rfl) pa_nil)) (pv 1)) (pe_fldK K rfl (pv 0) rfl) (nomark _)) (pss_one (ps_raise rfl (takes_of rfl rfl rfl rfl) (pmk_own PySem.F.excBase_ValueError T.x_NoRoom.1 T.g_NoRoom T.x_NoRoom.2.1 (raises_own T.x_NoRoom.2.2.1 T.x_NoRoom.2.2.2) rfl))) pss_nil)), ?_⟩
    have hp := s0 _ _ R.ins
    refine ⟨_, rfl, x.p, _, _, _, _, rfl, hp, T.cl_Wood, T.a_frames, wf_frames, x.fa, _, rfl, s0 _ _ R.frs, _, rfl, _, _, rfl, rfl, _, rfl, x.p, _, _, _, _, rfl, hp, T.cl_Wood, T.a_rooms, wf_rooms, _, _, rfl, rfl, _, rfl, ?_⟩
    rw [frV_len]
    by_cases h1 : W.rooms < (W.frames.length : Int) + n
    · rw [decide_eq_true h1]; exact iteT (hn h1)
    · rw [decide_eq_false h1]; exact iteF (hy (by omega))
theorem ok_Wood_hands (T : Txt K mg) : FnOk P w K mg base CX0 1 (aW K "hands") (fdOf K (aW K "hands")) ["self"] (spHands K) := by
  refine T.F_Wood_hands.ok sc_Wood_hands (fun vs H Q E h => ?_) (fun cdv A outer s H vs Q E hr h => ?_)
  · obtain ⟨_, _, _, rfl, _⟩ := h; rfl
  · obtain ⟨A, x, W, rfl, s0, R, k⟩ := h
    refine ⟨_, PSs.nox (pss_one (ps_ret (pe_callB (call_lenK K rfl) rfl T.n_len PySem.boot_len (pa_cons (pe_fldK K rfl (pv 0) rfl) pa_nil)))), ?_⟩
    have hp := s0 _ _ R.ins
    refine ⟨_, rfl, x.p, _, _, _, _, rfl, hp, T.cl_Wood, T.a_tops, wf_tops, x.ta, _, rfl, .inl (SqL.of (s0 _ _ R.tps)), ?_⟩
    rw [List.length_map]; exact k
theorem ok_Wood_copies (T : Txt K mg) : FnOk P w K mg base CX0 1 (aW K "copies") (fdOf K (aW K "copies")) ["self"] (spCopies K) := by
  refine T.F_Wood_copies.ok sc_Wood_copies (fun vs H Q E h => ?_) (fun cdv A outer s H vs Q E hr h => ?_)
  · obtain ⟨_, _, _, rfl, _⟩ := h; rfl
  · obtain ⟨A, x, W, rfl, s0, R, k⟩ := h
    refine ⟨_, PSs.nox (pss_one (ps_ret (pe_fldK K rfl (pv 0) rfl))), ?_⟩
    exact ⟨_, rfl, x.p, _, _, _, _, rfl, s0 _ _ R.ins, T.cl_Wood, T.a_made, wf_made, k⟩
theorem ok_Wood_path (T : Txt K mg) : FnOk P w K mg base CX0 1 (aW K "path") (fdOf K (aW K "path")) ["self", "room"] (spPath K) := by
  refine T.F_Wood_path.ok sc_Wood_path (fun vs H Q E h => ?_) (fun cdv A outer s H vs Q E hr h => ?_)
  · obtain ⟨_, _, _, _, _, rfl, _⟩ := h; rfl
  · obtain ⟨A, x, W, r, l, rfl, s0, R, hpath, hl, k⟩ := h
    refine ⟨_, PSs.nox (pss_cons (ps_set (i := 2) sc_Wood_path.nd rfl (Or.inl rfl) (pe_lst pa_nil)) (pss_cons (ps_while PassesOwn.never (pt_cmpR op_notN1 (pv 1) pe_non (nomark _)) (pss_cons (ps_expr (pe_bm PySem.F.plainAttrs_list PySem.F.slot_list_append PySem.F.type_list_append mt_append (pv 2) (pa_cons (pv 1) pa_nil))) (pss_one (ps_set (i := 1) sc_Wood_path.nd rfl (Or.inl rfl) (pe_fldK K rfl (pe_dget (hu_of hr) (pe_fldK K rfl (pv 0) rfl) (pv 1) (fun _ _ => rfl)) rfl))))) (pss_one (ps_ret (pv 2))))), ?_⟩
    refine ⟨Nat.zero_le _, fun p np => ?_⟩
    have npA : ∀ {b : Addr} {o : HO}, A b = some o → b ≠ p := fun e => ne_of_none (s0 _ _ e) np
    refine ⟨fun m σ H' => ∃ (pre : List Int) (y : Option Int) (post : List Int), σ = [some (.ref x.p), some (oV y), some (.ref p)] ∧ H' = upd H p (.lst (pre.map V.int)) ∧ Path W.frames y post ∧ l = pre ++ post ∧ m = post.length, ⟨l.length, [], r, l, rfl, rfl, hpath, rfl, rfl⟩, ?_⟩
    rintro m σ H' ⟨pre, y, post, rfl, rfl, hy, el, rfl⟩
    refine ⟨_, rfl, rfl, _, rfl, ?_⟩
    cases hy with
    | nil =>
      refine iteF ⟨_, rfl, ?_⟩
      rw [List.append_nil] at el
      subst el
      exact k p np
    | @cons q f post e hy =>
      refine iteT ⟨fun σ' H' => ∃ (pre' : List Int) (y : Option Int) (post' : List Int), σ' = [some (.ref x.p), some (oV y), some (.ref p)] ∧ H' = upd H p (.lst (pre'.map V.int)) ∧ Path W.frames y post' ∧ l = pre' ++ post' ∧ post'.length = post.length, fun σ' H' ⟨pre', y, post', a1, a2, a3, a4, a5⟩ => ⟨post'.length, by rw [a5]; simp, pre', y, post', a1, a2, a3, a4, rfl⟩, ?_⟩
      refine ⟨_, rfl, .inl ⟨rfl, _, SqL.of upd_same⟩, _, rfl, p, _, _, rfl, rfl, upd_same, szl (by rw [List.length_map]; rw [el] at hl; rw [List.length_append] at hl; omega), ?_⟩
      rw [upd_upd]
      have hp : upd H p (.lst (pre.map V.int ++ [V.int q])) x.p = some _ := (upd_ne (npA R.ins)).trans (s0 _ _ R.ins)
      have hfa : upd H p (.lst (pre.map V.int ++ [V.int q])) x.fa = some _ := (upd_ne (npA R.frs)).trans (s0 _ _ R.frs)
      have hfr : upd H p (.lst (pre.map V.int ++ [V.int q])) (x.fo q) = some _ := (upd_ne (npA (R.fr _ _ e))).trans (s0 _ _ (R.fr _ _ e))
      refine ⟨_, rfl, x.p, _, _, _, _, rfl, hp, T.cl_Wood, T.a_frames, wf_frames, _, rfl, x.fa, V.ref (x.fo q), rfl, ?_, x.fo q, _, _, _, _, rfl, hfr, T.cl_Frame, T.a_below, ff_below, ?_⟩
      · have := DGet.k (k := Sum.inl q) hfa
        rw [valV_fr, e] at this; exact this
      · exact ⟨pre ++ [q], f.below, post, rfl, by rw [List.map_append]; rfl, hy, by rw [el]; simp, rfl⟩
theorem ok_Wood_new_room (T : Txt K mg) : FnOk P w K mg base CX0 1 (aW K "new_room") (fdOf K (aW K "new_room")) ["self"] (spNewRoom K) := by
  refine T.F_Wood_new_room.ok sc_Wood_new_room (fun vs H Q E h => ?_) (fun cdv A outer s H vs Q E hr h => ?_)
  · obtain ⟨_, _, _, rfl, _⟩ := h; rfl
  · obtain ⟨A, x, W, rfl, s0, R, h40, hin, k⟩ := h
    refine ⟨_, PSs.nox (pss_one (ps_ret (pe_callB (cr_min rfl) rfl T.n_min (by decide +kernel) (pa_cons (pe_lc (own := [("room", 1)]) (g := gName 1) rfl sc_Wood_new_room.nd (pi_range2 rfl T.n_range (pa_cons pe_int (pa_cons (pe_op op_add (pe_fldK K rfl (pv 0) rfl) pe_int) pa_nil))) (blkOk_by (own := [("room", 1)]) (N := ["self", "room"]) (sc := (defScope s_Wood_new_room)) (by decide +kernel)) (fun _ _ _ _ _ => pg_name (i := 1) sc_Wood_new_room.nd rfl (Or.inl rfl)) (fun _ _ _ _ _ => by exact (pts_one (pt_cmp (pc_dnotin (hu_of hr) (pv 1) (pe_fldK K rfl (pv 0) rfl))))) (fun _ _ _ _ _ => by exact (pv 1))) pa_nil)))), ?_⟩
    have hp := s0 _ _ R.ins
    refine ⟨_, rfl, x.p, _, _, _, _, rfl, hp, T.cl_Wood, T.a_rooms, wf_rooms, _, _, rfl, rfl, 1, W.rooms + 1, rfl, ⟨by decide, by decide, by have := (mem_freeR.mp hin).1; omega, by omega⟩, fun D nD => ?_⟩
    have ln : (W.rooms + 1 - 1).toNat = W.rooms.toNat := by congr 1; omega
    rw [ln]
    refine lc_range (lo := 1) (n := W.rooms.toNat) (fun i H' => H' = upd H D (.lst ((((List.range i).map fun (i : Nat) => (1 : Int) + (i : Int)).filter fun r => !has W.frames r).map V.int))) rfl ?_ ?_
    · rintro i H' hi rfl
      have hp' : upd H D (.lst ((((List.range i).map fun (i : Nat) => (1 : Int) + (i : Int)).filter fun r => !has W.frames r).map V.int)) x.p = some _ := (upd_ne (ne_of_none hp nD)).trans hp
      have hfa := s0 _ _ R.frs
      have hfa' : upd H D (.lst ((((List.range i).map fun (i : Nat) => (1 : Int) + (i : Int)).filter fun r => !has W.frames r).map V.int)) x.fa = some _ := (upd_ne (ne_of_none hfa nD)).trans hfa
      refine ⟨rfl, _, rfl, _, rfl, x.p, _, _, _, _, rfl, hp', T.cl_Wood, T.a_frames, wf_frames, x.fa, _, rfl, DGet.k (k := Sum.inl (1 + (i : Int))) hfa', _, rfl, ?_⟩
      rw [valV_fr, List.range_succ, List.map_append, List.filter_append, List.map_append]
      have len : ((((List.range i).map fun (i : Nat) => (1 : Int) + (i : Int)).filter fun r => !has W.frames r).map V.int).length ≤ 1000 := by
        rw [List.length_map]
        refine Nat.le_trans (List.length_filter_le _ _) ?_
        rw [List.length_map, List.length_range]; omega
      cases e : lk W.frames (1 + (i : Int)) with
      | none =>
        have hh : has W.frames (1 + (i : Int)) = false := has_false.mpr e
        refine iteT ⟨_, rfl, _, upd_same, szl (by omega), ?_⟩
        rw [upd_upd]; simp [hh]
      | some f =>
        have hh : has W.frames (1 + (i : Int)) = true := has_true.mpr ⟨f, e⟩
        refine iteF ?_
        simp [hh]
    · rintro H' rfl
      have e1 : (((List.range W.rooms.toNat).map fun (i : Nat) => (1 : Int) + (i : Int)).filter fun r => !has W.frames r) = freeR W.rooms W.frames := rfl
      rw [e1]
      refine ⟨D, _, rfl, SqL.of upd_same, List.length_pos_of_mem hin, fun m hm hle => ?_⟩
      have := min_head (freeR_sorted W.rooms W.frames) hm hle
      have e2 : m = newRoom W.rooms W.frames := this
      rw [e2]
      exact k _ (same_new nD _)
theorem ok_Wood_want (T : Txt K mg) : FnOk P w K mg base CX0 1 (aW K "want") (fdOf K (aW K "want")) ["self", "room"] (spWant K) := by
  refine T.F_Wood_want.ok sc_Wood_want (fun vs H Q E h => ?_) (fun cdv A outer s H vs Q E hr h => ?_)
  · obtain ⟨_, _, _, _, rfl, _⟩ := h; rfl
  · obtain ⟨A, x, W, r, rfl, s0, R, hin, k⟩ := h
    refine ⟨_, PSs.nox (pss_one (ps_if (pt_cmpR op_notN1 (pv 1) pe_non (nomark _)) (pss_one (ps_fld (pe_dget (hu_of hr) (pe_fldK K rfl (pv 0) rfl) (pv 1) (fun _ _ => rfl)) (pe_op op_add (pe_fldK K rfl (pe_dget (hu_of hr) (pe_fldK K rfl (pv 0) rfl) (pv 1) (fun _ _ => rfl)) rfl) pe_int) rfl)) pss_nil)), ?_⟩
    have hp := s0 _ _ R.ins
    refine ⟨_, rfl, rfl, _, rfl, ?_⟩
    cases r with
    | none => exact iteF (k A H R (Stp.refl s0))
    | some q =>
      obtain ⟨f, e⟩ := hin q rfl
      have hfr := s0 _ _ (R.fr q f e)
      have hget : DGet H x.fa (V.int q) (some (V.ref (x.fo q))) := by
        have := DGet.k (k := Sum.inl q) (s0 _ _ R.frs)
        rw [valV_fr, e] at this; exact this
      refine iteT ⟨_, rfl, x.p, _, _, _, _, rfl, hp, T.cl_Wood, T.a_frames, wf_frames, _, rfl, x.fa, _, rfl, hget, x.fo q, _, _, _, _, rfl, hfr, T.cl_Frame, T.a_needs, ff_needs, _, _, rfl, rfl, _, rfl, x.p, _, _, _, _, rfl, hp, T.cl_Wood, T.a_frames, wf_frames, _, rfl, x.fa, _, rfl, hget, x.fo q, _, _, _, rfl, hfr, T.cl_Frame, T.a_needs, by show 3 < 1000; decide, ?_⟩
      have R' := R.setFr e f.below (f.needs + 1)
      have := k _ _ (by simpa only [wantF, e] using R') ((Stp.refl s0).upd (R.fr q f e) _)
      exact this
theorem ok_Wood_leave (T : Txt K mg) : FnOk P w K mg base CX0 1 (aW K "leave") (fdOf K (aW K "leave")) ["self", "room"] (spLeave K) := by
  refine T.F_Wood_leave.ok sc_Wood_leave (fun vs H Q E h => ?_) (fun cdv A outer s H vs Q E hr h => ?_)
  · obtain ⟨_, _, _, _, _, rfl, _⟩ := h; rfl
  · obtain ⟨A, x, W, r, gs, rfl, s0, R, hl, nd0, k⟩ := h
    refine ⟨_, PSs.nox (pss_one (ps_while PassesOwn.never (pt_cmpR op_notN1 (pv 1) pe_non (nomark _)) (pss_cons (ps_set (i := 2) sc_Wood_leave.nd rfl (Or.inl rfl) (pe_dget (hu_of hr) (pe_fldK K rfl (pv 0) rfl) (pv 1) (fun _ _ => rfl))) (pss_cons (ps_fld (pv 2) (pe_op op_sub (pe_fldK K rfl (pv 2) rfl) pe_int) rfl) (pss_cons (ps_if (pt_cmpR op_gt (pe_fldK K rfl (pv 2) rfl) pe_int (nomark _)) (pss_one ps_retN) pss_nil) (pss_cons (ps_expr (pe_dpop1 (pe_fldK K rfl (pv 0) rfl) (pv 1) ⟨rfl, rfl, rfl, rfl⟩)) (pss_one (ps_set (i := 1) sc_Wood_leave.nd rfl (Or.inl rfl) (pe_fldK K rfl (pv 2) rfl))))))))), ?_⟩
    refine ⟨fun m σ H' => ∃ (A' : Hp) (fs : Fs) (y : Option Int) (z : Option V), σ = [some (.ref x.p), some (oV y), z] ∧ WA K A' x { W with frames := fs } ∧ Stp A H A' H' ∧ Leave fs y gs ∧ (ks fs).Nodup ∧ m = fs.length, ⟨_, A, W.frames, r, none, rfl, R, Stp.refl s0, hl, nd0, rfl⟩, ?_⟩
    rintro m σ H' ⟨A', fs, y, z, rfl, R', S, hy, nd1, rfl⟩
    have hp := S.own _ _ R'.ins
    refine ⟨_, rfl, rfl, _, rfl, ?_⟩
    cases hy with
    | nil => exact iteF (k A' H' R' S)
    | @stop _ q f e g =>
      have hfr := S.own _ _ (R'.fr q f e)
      have hget : DGet H' x.fa (V.int q) (some (V.ref (x.fo q))) := by
        have := DGet.k (k := Sum.inl q) (S.own _ _ R'.frs)
        rw [valV_fr, e] at this; exact this
      refine iteT ⟨fun _ _ => False, fun _ _ h => h.elim, ?_⟩
      refine ⟨_, rfl, x.p, _, _, _, _, rfl, hp, T.cl_Wood, T.a_frames, wf_frames, _, rfl, x.fa, _, rfl, hget, ?_⟩
      refine ⟨_, rfl, x.fo q, _, _, _, _, rfl, hfr, T.cl_Frame, T.a_needs, ff_needs, _, _, rfl, rfl, _, rfl, x.fo q, _, _, _, rfl, hfr, T.cl_Frame, T.a_needs, by show 3 < 1000; decide, ?_⟩
      refine ⟨_, rfl, x.fo q, _, _, _, _, rfl, upd_same, T.cl_Frame, T.a_needs, (by rfl), _, _, rfl, rfl, _, rfl, ?_⟩
      rw [decide_eq_true (show 0 < f.needs - 1 from g)]
      refine iteT ?_
      exact k _ _ (R'.setFr e f.below (f.needs - 1)) (S.upd (R'.fr q f e) _)
    | @go _ _ q f e g hrest =>
      have hfr := S.own _ _ (R'.fr q f e)
      have hget : DGet H' x.fa (V.int q) (some (V.ref (x.fo q))) := by
        have := DGet.k (k := Sum.inl q) (S.own _ _ R'.frs)
        rw [valV_fr, e] at this; exact this
      refine iteT ⟨fun σ' H'' => ∃ (A'' : Hp) (fs' : Fs) (y : Option Int) (z : Option V), σ' = [some (.ref x.p), some (oV y), z] ∧ WA K A'' x { W with frames := fs' } ∧ Stp A H A'' H'' ∧ Leave fs' y gs ∧ (ks fs').Nodup ∧ fs'.length < fs.length, fun σ' H'' ⟨A'', fs', y, z, a1, a2, a3, a4, a5, a6⟩ => ⟨_, a6, A'', fs', y, z, a1, a2, a3, a4, a5, rfl⟩, ?_⟩
      refine ⟨_, rfl, x.p, _, _, _, _, rfl, hp, T.cl_Wood, T.a_frames, wf_frames, _, rfl, x.fa, _, rfl, hget, ?_⟩
      refine ⟨_, rfl, x.fo q, _, _, _, _, rfl, hfr, T.cl_Frame, T.a_needs, ff_needs, _, _, rfl, rfl, _, rfl, x.fo q, _, _, _, rfl, hfr, T.cl_Frame, T.a_needs, by show 3 < 1000; decide, ?_⟩
      refine ⟨_, rfl, x.fo q, _, _, _, _, rfl, upd_same, T.cl_Frame, T.a_needs, (by rfl), _, _, rfl, rfl, _, rfl, ?_⟩
      rw [decide_eq_false (show ¬ 0 < f.needs - 1 from g)]
      refine iteF ?_
      have R2 := R'.setFr e f.below (f.needs - 1)
      have S2 := S.upd (R'.fr q f e) (.ins (fK K) (x.fd q) (fF { f with needs := f.needs - 1 } (x.so q)))
      have e2 : lk (pt fs q { f with needs := f.needs - 1 }) q = some { f with needs := f.needs - 1 } := lk_pt_same _ _ _
      have hp2 := S2.own _ _ R2.ins
      have hfa2 := S2.own _ _ R2.frs
      refine ⟨_, rfl, x.p, _, _, _, _, rfl, hp2, T.cl_Wood, T.a_frames, wf_frames, x.fa, rfl, .inl ⟨_, .inl hfa2⟩, _, rfl, _, Sum.inl q, V.ref (x.fo q), hfa2, rfl, by rw [valV_fr, show lk (pt fs q { f with needs := f.needs - 1 }) q = _ from e2]; rfl, ?_⟩
      rw [dropK_fr]
      have R3 := R2.pop q
      have S3 := S2.upd R2.frs (.dK (frV x.fo (dr (pt fs q { f with needs := f.needs - 1 }) q)))
      have hfr3 := S3.own (x.fo q) _ ((upd_ne (ne_of (R2.fr q _ e2) R2.frs (by intro z; cases z))).trans (R2.fr q _ e2))
      refine ⟨_, rfl, x.fo q, _, _, _, _, rfl, hfr3, T.cl_Frame, T.a_below, ff_below, ?_⟩
      have ed : dr (pt fs q { f with needs := f.needs - 1 }) q = dr fs q := dr_pt fs q _
      refine ⟨_, dr fs q, f.below, _, rfl, ?_, S3, hrest, nd_dr nd1, by have := len_dr nd1 e; omega⟩
      rw [← ed]; exact R3
theorem ok_Frame_init (T : Txt K mg) : FnOk P w K mg base CX0 1 (aF K "__init__") (fdOf K (aF K "__init__")) ["self", "below", "slots"] (spFrame K) := by
  refine T.F_Frame_init.ok sc_Frame_init (fun vs H Q E h => ?_) (fun cdv A outer s H vs Q E hr h => ?_)
  · obtain ⟨_, _, _, _, _, rfl, _⟩ := h; rfl
  · obtain ⟨y, dx, s1, b, zs, rfl, hy, hs, k⟩ := h
    refine ⟨_, PSs.nox (pss_cons (ps_fld (pv 0) (pv 1) rfl) (pss_cons (ps_fld (pv 0) (pe_callTy (call_listK K rfl) rfl T.n_list (by decide +kernel) (pa_cons (pv 2) pa_nil)) rfl) (pss_one (ps_fld (pv 0) pe_int rfl)))), ?_⟩
    refine ⟨_, rfl, _, rfl, y, _, _, _, rfl, hy, T.cl_Frame, T.a_below, by show 0 < 1000; decide, ?_⟩
    have hs2 : SqL K (upd H y (.ins (fK K) dx (putF "below" (oV b) []))) s1 (zs.map V.int) := by
      rcases hs with (h | ⟨o, h⟩) | h
      · exact .inl (.inl ((upd_ne (ne_of h hy (by intro z; cases z))).trans h))
      · exact .inl (.inr ⟨o, (upd_ne (ne_of h hy (by intro z; cases z))).trans h⟩)
      · exact .inr h
    refine ⟨_, rfl, s1, _, rfl, .inl hs2, fun l nl => ?_⟩
    have nyl : y ≠ l := fun z => by rw [← z, upd_same] at nl; cases nl
    have nl0 : H l = none := by rw [upd_ne nyl.symm] at nl; exact nl
    refine ⟨_, rfl, y, _, _, _, rfl, (upd_ne nyl).trans upd_same, T.cl_Frame, T.a_slots, by show 1 < 1000; decide, ?_⟩
    refine ⟨_, rfl, y, _, _, _, rfl, upd_same, T.cl_Frame, T.a_needs, by show 2 < 1000; decide, ?_⟩
    rw [upd_upd, upd_back nyl]
    exact k l nl0
end
end Sk
end
section
/-! SwM2: the deeds of a wood keep their promises. -/
namespace Sk
open PySem PySem.Spec PyProof.Rows L2 SW
def ern : Er → Str
  | .hand => "NoHand"
  | .place => "NoPlace"
  | .call => "NoCall"
  | .slot => "NoSlot"
  | .room => "NoRoom"
/-- a refusal: nothing is changed -/
def Ref (K : PySem.W.Frag) (H : Hp) (E : XK) (e : Er) : Prop := ∀ H', Same H H' → E (eC K (ern e)) none H'
/-- what follows, the wood then being W' -/
def Then (K : PySem.W.Frag) (A H : Hp) (x : Ad) (W' : Wd) (Q : Hp → Prop) : Prop := ∀ A' x' H', x'.p = x.p → WA K A' x' W' → Stp A H A' H' → Q H'
/-- a method's head: the wood at x in the part A -/
structure At (K : PySem.W.Frag) (A H : Hp) (x : Ad) (W : Wd) : Prop where
  sub : Sub A H
  wa : WA K A x W
  wf : WFW W
theorem off_newA {A H : Hp} (s : Sub A H) {l : Addr} (nl : H l = none) : A l = none := by
  cases q : A l with
  | none => rfl
  | some u => rw [s _ _ q] at nl; cases nl
section
variable (K : PySem.W.Frag)
def spTurn : Sp := fun vs H Q _ => ∃ (A : Hp) (x : Ad) (W : Wd) (h : Int) (r : Option Int) (gs : Fs), vs = [.ref x.p, .int h, oV r] ∧ Sub A H ∧ WA K A x W ∧ hOk W h ∧ (∀ k, r = some k → ∃ f, lk W.frames k = some f) ∧ Leave (wantF W.frames r) (top W h) gs ∧ (ks W.frames).Nodup ∧
  ∀ A' H', WA K A' x { W with frames := gs, tops := W.tops.set h.toNat r } → Stp A H A' H' → Q .non H'
def spCall : Sp := fun vs H Q E => ∃ (A : Hp) (x : Ad) (W : Wd) (h : Int) (s : Addr) (zs : List Int), vs = [.ref x.p, .int h, .ref s] ∧ At K A H x W ∧ SqL K H s (zs.map V.int) ∧
  match doCall W h zs with
  | .error e => Ref K H E e
  | .ok (r, W') => Then K A H x W' (Q (.int r))
def spBack : Sp := fun vs H Q E => ∃ (A : Hp) (x : Ad) (W : Wd) (h : Int), vs = [.ref x.p, .int h] ∧ At K A H x W ∧
  match doBack W h with
  | .error e => Ref K H E e
  | .ok (zs, W') => ∀ l, H l = none → ∀ A' x' H', x'.p = x.p → WA K A' x' W' → Stp A H A' H' → A' l = none → H' l = some (.lst (zs.map V.int)) → Q (.ref l) H'
def spBranch : Sp := fun vs H Q E => ∃ (A : Hp) (x : Ad) (W : Wd) (h o : Int), vs = [.ref x.p, .int h, .int o] ∧ At K A H x W ∧
  match doBranch W h o with
  | .error e => Ref K H E e
  | .ok W' => Then K A H x W' (Q .non)
def spKeep : Sp := fun vs H Q E => ∃ (A : Hp) (x : Ad) (W : Wd) (h : Int), vs = [.ref x.p, .int h] ∧ At K A H x W ∧ W.marks.length ≤ 100000 ∧
  match doKeep W h with
  | .error e => Ref K H E e
  | .ok (p, W') => Then K A H x W' (Q (.int p))
def spLeap : Sp := fun vs H Q E => ∃ (A : Hp) (x : Ad) (W : Wd) (h p : Int), vs = [.ref x.p, .int h, .int p] ∧ At K A H x W ∧
  match doLeap W h p with
  | .error e => Ref K H E e
  | .ok W' => Then K A H x W' (Q .non)
def spForget : Sp := fun vs H Q E => ∃ (A : Hp) (x : Ad) (W : Wd) (p : Int), vs = [.ref x.p, .int p] ∧ At K A H x W ∧
  match doForget W p with
  | .error e => Ref K H E e
  | .ok W' => Then K A H x W' (Q .non)
end
theorem ixN_ok {n : Nat} {h : Int} (h0 : 0 ≤ h) (h1 : h < (n : Int)) : ixN n h = some h.toNat := by
  unfold ixN; rw [if_pos h0, if_pos h1]
theorem atI_tops {W : Wd} {h : Int} (k : hOk W h) : atI (W.tops.map oV) h = some (oV (top W h)) := by
  unfold atI
  rw [List.length_map, ixN_ok k.1 k.2]
  show (W.tops.map oV)[h.toNat]? = _
  rw [List.getElem?_map, top_get k]; rfl
theorem wf_no {W : Wd} {fa ta ma : Addr} {m : Str} (h : (["rooms", "frames", "tops", "marks", "many", "made"] : List Str).contains m = false) : (wF W fa ta ma).lookup m = none := by
  have e : ∀ l : List (Str × V), (l.map (·.1)).contains m = false → l.lookup m = none := by
    intro l
    induction l with
    | nil => intro _; rfl
    | cons p l ih =>
      intro h
      obtain ⟨a, b⟩ := p
      simp only [List.map_cons, List.contains_cons, Bool.or_eq_false_iff] at h
      simp only [List.lookup_cons, h.1]
      exact ih h.2
  exact e _ h
section
variable {P : Program} {w : World} {K : PySem.W.Frag} {mg : Str → Option Value} {base : Heap}
theorem ok_Wood_turn_to (T : Txt K mg) : FnOk P w K mg base CX0 2 (aW K "turn_to") (fdOf K (aW K "turn_to")) ["self", "hand", "room"] (spTurn K) := by
  refine T.F_Wood_turn_to.ok sc_Wood_turn_to (fun vs H Q E h => ?_) (fun cdv A outer s H vs Q E hr h => ?_)
  · obtain ⟨_, _, _, _, _, _, rfl, _⟩ := h; rfl
  · obtain ⟨A, x, W, h, r, gs, rfl, s0, R, hk, hin, hl, nd0, k⟩ := h
    refine ⟨_, PSs.nox (pss_cons (ps_expr (pe_meth (pv 0) T.cl_Wood T.m_want (ok_Wood_want T) (hr.mono (by decide)) T.b_Wood_want .nil pass0 (pa_cons (pv 2) pa_nil))) (pss_cons (ps_expr (pe_meth (pv 0) T.cl_Wood T.m_leave (ok_Wood_leave T) (hr.mono (by decide)) T.b_Wood_leave .nil pass0 (pa_cons (pe_ix (ix_listK K rfl) (pe_fldK K rfl (pv 0) rfl) (pv 1) (fun _ _ => rfl)) pa_nil))) (pss_one (ps_asg (pv 2) (pg_sub (pe_fldK K rfl (pv 0) rfl) (pv 1) set_list))))), ?_⟩
    refine ⟨_, rfl, x.p, _, _, rfl, s0 _ _ R.ins, wf_no (by decide +kernel), _, rfl, A, x, W, r, rfl, s0, R, hin, fun A1 H1 R1 S1 => ?_⟩
    have hp1 := S1.own _ _ R1.ins
    refine ⟨_, rfl, x.p, _, _, rfl, hp1, wf_no (by decide +kernel), _, rfl, x.p, _, _, _, _, rfl, hp1, T.cl_Wood, T.a_tops, wf_tops, _, rfl, x.ta, _, _, _, rfl, rfl, SqL.of (S1.own _ _ R1.tps), atI_tops (W := { W with frames := wantF W.frames r }) hk, ?_⟩
    refine ⟨A1, x, _, top W h, gs, rfl, S1.own, R1, hl, by show (ks (wantF W.frames r)).Nodup; rw [ks_want]; exact nd0, fun A2 H2 R2 S2 => ?_⟩
    have hp2 := S2.own _ _ R2.ins
    refine ⟨_, rfl, _, rfl, x.p, _, _, _, _, rfl, hp2, T.cl_Wood, T.a_tops, wf_tops, _, rfl, x.ta, _, h, h.toNat, rfl, rfl, S2.own _ _ R2.tps, by rw [List.length_map]; exact ixN_ok hk.1 hk.2, ?_⟩
    have e : ((W.tops.map oV).set h.toNat (oV r)) = (W.tops.set h.toNat r).map oV := by rw [List.map_set]
    rw [e]
    exact k _ _ (R2.setTops _) ((S1.trans S2).upd R2.tps _)
theorem ok_Wood_call (T : Txt K mg) : FnOk P w K mg base (L2.CX P w) 3 (aW K "call") (fdOf K (aW K "call")) ["self", "hand", "values"] (spCall K) := by
  refine T.F_Wood_call.ok (CX := L2.CX P w) sc_Wood_call (fun vs H Q E h => ?_) (fun cdv A outer s H vs Q E hr h => ?_)
  · obtain ⟨_, _, _, _, _, _, rfl, _⟩ := h; rfl
  · obtain ⟨A, x, W, h, s1, zs, rfl, ⟨s0, R, F⟩, hs, k⟩ := h
    refine ⟨_, (pss_cons (ps_expr (pe_meth (pv 0) T.cl_Wood T.m_need_hand (ok_Wood_need_hand T) (hr.mono (by decide)) T.b_Wood_need_hand .nil (passes_call (takes_of rfl rfl rfl rfl) (fun _ _ _ _ h => h)) (pa_cons (pv 1) pa_nil))) (pss_cons (ps_if (pt_cmpR op_gt (pe_callB (call_lenK K rfl) rfl T.n_len PySem.boot_len (pa_cons (pv 2) pa_nil)) (pe_cst T.i_MOST_VALUES rfl) (nomark _)) (pss_one (ps_raise rfl (takes_of rfl rfl rfl rfl) (pmk_own PySem.F.excBase_ValueError T.x_NoSlot.1 T.g_NoSlot T.x_NoSlot.2.1 (raises_own T.x_NoSlot.2.2.1 T.x_NoSlot.2.2.2) rfl))) pss_nil) (pss_cons (ps_expr (pe_meth (pv 0) T.cl_Wood T.m_need_free (ok_Wood_need_free T) (hr.mono (by decide)) T.b_Wood_need_free .nil (passes_call (takes_of rfl rfl rfl rfl) (fun _ _ _ _ h => h)) (pa_cons pe_int pa_nil))) (pss_cons (ps_set (i := 3) sc_Wood_call.nd rfl (Or.inl rfl) (pe_meth0 (pv 0) T.cl_Wood T.m_new_room (ok_Wood_new_room T) (hr.mono (by decide)) T.b_Wood_new_room .nil pass0)) (pss_cons (ps_dput (hu_of hr) (pe_fldK K rfl (pv 0) rfl) (pv 3) (pe_make T.mk_Frame (ok_Frame_init T) (hr.mono (by decide)) rfl T.g_Frame T.b_Frame_init .nil pass0 (pa_cons (pe_ix (ix_listK K rfl) (pe_fldK K rfl (pv 0) rfl) (pv 1) (fun _ _ => rfl)) (pa_cons (pv 2) pa_nil))) rfl) (pss_cons (ps_asg (pv 3) (pg_sub (pe_fldK K rfl (pv 0) rfl) (pv 1) set_list)) (pss_one (ps_ret (pv 3))))))))), ?_⟩
    unfold doCall at k
    have hp := s0 _ _ R.ins
    refine ⟨_, rfl, x.p, _, _, rfl, hp, wf_no (by decide +kernel), _, rfl, A, x, W, h, rfl, s0, R, fun hk => ?_, fun hk => ?_⟩
    · rw [if_neg (fun z => z hk)] at k
      refine ⟨_, rfl, s1, _, rfl, .inl hs, _, _, rfl, rfl, _, rfl, ?_⟩
      rw [List.length_map]
      by_cases h3 : 3 < zs.length
      · rw [if_pos h3] at k
        rw [decide_eq_true (show (3 : Int) < (zs.length : Int) by omega)]
        exact iteT (k _ (Same.refl _))
      · rw [if_neg h3] at k
        rw [decide_eq_false (show ¬ (3 : Int) < (zs.length : Int) by omega)]
        refine iteF ⟨_, rfl, x.p, _, _, rfl, hp, wf_no (by decide +kernel), A, x, W, 1, rfl, s0, R, fun hfree => ?_, fun hfull => ?_⟩
        · rw [if_neg (by omega)] at k
          have hin := newRoom_in F.wf.nd F.rng hfree
          obtain ⟨_, nn⟩ := mem_freeR.mp hin
          refine ⟨_, rfl, x.p, _, _, rfl, hp, wf_no (by decide +kernel), A, x, W, rfl, s0, R, F.r40, hin, fun H1 e1 => ?_⟩
          generalize hr0 : newRoom W.rooms W.frames = r at k nn
          have S1 := (Stp.refl s0).same e1
          have hp1 := S1.own _ _ R.ins
          refine ⟨_, rfl, x.p, _, _, _, _, rfl, hp1, T.cl_Wood, T.a_tops, wf_tops, _, rfl, x.ta, _, _, _, rfl, rfl, SqL.of (S1.own _ _ R.tps), atI_tops hk, _, rfl, fun y dx ny nd ne => ?_⟩
          have hs2 : SqL K (upd (upd H1 dx (.own y)) y (.ins (fK K) dx [])) s1 (zs.map V.int) := by
            refine Same.seq (fun b o e => ?_) hs
            have := e1 _ _ e
            rw [upd_ne (ne_of_none this ny), upd_ne (ne_of_none this nd)]; exact this
          refine ⟨y, dx, s1, top W h, zs, rfl, upd_same, hs2, fun l nl => ⟨rfl, ?_⟩⟩
          have nly : y ≠ l := fun z => by rw [← z, upd_same] at nl; cases nl
          have nld : dx ≠ l := fun z => by
            rw [← z, upd_ne ne, upd_same] at nl; cases nl
          have nl1 : H1 l = none := by rw [upd_ne nly.symm, upd_ne nld.symm] at nl; exact nl
          rw [upd_back nly]
          have S2 : Stp A H A (upd H1 dx (.own y)) := S1.gar nd _
          have S3 := S2.new' (a := l) (by rw [upd_ne nld.symm]; exact nl1) (.lst (zs.map V.int))
          have S4 := S3.new' (a := y) (by rw [upd_ne nly, upd_ne ne.symm]; exact ny) (.ins (fK K) dx (fF ⟨top W h, zs, 1⟩ l))
          have nyA := S1.free ny
          have nlA := S1.free nl1
          have R4 := R.newFr nn nyA nlA nly.symm ⟨top W h, zs, 1⟩ (d := dx)
          have old : ∀ {b : Addr} {o : HO}, A b = some o → upd (upd A l (.lst (zs.map V.int))) y (.ins (fK K) dx (fF ⟨top W h, zs, 1⟩ l)) b = some o := fun {b o} e => by
            rw [upd_ne (ne_of_none e nyA), upd_ne (ne_of_none e nlA)]; exact e
          have hp4 := S4.own _ _ (old R.ins)
          refine ⟨_, rfl, x.p, _, _, _, _, rfl, hp4, T.cl_Wood, T.a_frames, wf_frames, _, rfl, x.fa, _, rfl, DPut.k (k := Sum.inl r) (S4.own _ _ (old R.frs)) (szl (by rw [frV_len]; have := F.len; omega)), ?_⟩
          rw [putK_fr y ⟨top W h, zs, 1⟩ nn]
          have S5 := S4.upd (old R.frs) (.dK (frV (fun k => if k = r then y else x.fo k) (pt W.frames r ⟨top W h, zs, 1⟩)))
          have hp5 := S5.own _ _ R4.ins
          refine ⟨_, rfl, _, rfl, x.p, _, _, _, _, rfl, hp5, T.cl_Wood, T.a_tops, wf_tops, _, rfl, x.ta, _, h, h.toNat, rfl, rfl, S5.own _ _ R4.tps, by rw [List.length_map]; exact ixN_ok hk.1 hk.2, ?_⟩
          have e : ((W.tops.map oV).set h.toNat (V.int r)) = (W.tops.set h.toNat (some r)).map oV := by rw [List.map_set]; rfl
          rw [e]
          exact ⟨_, rfl, k _ { x with fo := fun k => if k = r then y else x.fo k, so := fun k => if k = r then l else x.so k, fd := fun k => if k = r then dx else x.fd k } _ rfl (R4.setTops (W.tops.set h.toNat (some r))) (S5.upd R4.tps _)⟩
        · rw [if_pos hfull] at k
          exact k _ (Same.refl _)
    · rw [if_pos hk] at k
      exact k _ (Same.refl _)
theorem get_fr {H : Hp} {x : Ad} {fs : Fs} {r : Int} {f : Fr} (h : H x.fa = some (.dK (frV x.fo fs))) (e : lk fs r = some f) : DGet H x.fa (V.int r) (some (V.ref (x.fo r))) := by
  have := DGet.k (k := Sum.inl r) h
  rw [valV_fr, e] at this; exact this
theorem turn_goal {W : Wd} (F : WFW W) {h : Int} (hk : hOk W h) {r : Option Int} (hin : ∀ k, r = some k → ∃ f, lk W.frames k = some f) : Leave (wantF W.frames r) (top W h) (turnTo W h r).frames := (turnTo_ok F hk hin).lv
theorem ok_Wood_back (T : Txt K mg) : FnOk P w K mg base (L2.CX P w) 3 (aW K "back") (fdOf K (aW K "back")) ["self", "hand"] (spBack K) := by
  refine T.F_Wood_back.ok (CX := L2.CX P w) sc_Wood_back (fun vs H Q E h => ?_) (fun cdv A outer s H vs Q E hr h => ?_)
  · obtain ⟨_, _, _, _, rfl, _⟩ := h; rfl
  · obtain ⟨A, x, W, h, rfl, ⟨s0, R, F⟩, k⟩ := h
    refine ⟨_, (pss_cons (ps_expr (pe_meth (pv 0) T.cl_Wood T.m_need_hand (ok_Wood_need_hand T) (hr.mono (by decide)) T.b_Wood_need_hand .nil (passes_call (takes_of rfl rfl rfl rfl) (fun _ _ _ _ h => h)) (pa_cons (pv 1) pa_nil))) (pss_cons (ps_set (i := 2) sc_Wood_back.nd rfl (Or.inl rfl) (pe_ix (ix_listK K rfl) (pe_fldK K rfl (pv 0) rfl) (pv 1) (fun _ _ => rfl))) (pss_cons (ps_if (pt_cmpR op_isN1 (pv 2) pe_non (nomark _)) (pss_one (ps_raise rfl (takes_of rfl rfl rfl rfl) (pmk_own PySem.F.excBase_ValueError T.x_NoCall.1 T.g_NoCall T.x_NoCall.2.1 (raises_own T.x_NoCall.2.2.1 T.x_NoCall.2.2.2) rfl))) pss_nil) (pss_cons (ps_set (i := 3) sc_Wood_back.nd rfl (Or.inl rfl) (pe_callTy (call_listK K rfl) rfl T.n_list (by decide +kernel) (pa_cons (pe_fldK K rfl (pe_dget (hu_of hr) (pe_fldK K rfl (pv 0) rfl) (pv 2) (fun _ _ => rfl)) rfl) pa_nil))) (pss_cons (ps_expr (pe_meth (pv 0) T.cl_Wood T.m_turn_to (ok_Wood_turn_to T) (hr.mono (by decide)) T.b_Wood_turn_to .nil pass0 (pa_cons (pv 1) (pa_cons (pe_fldK K rfl (pe_dget (hu_of hr) (pe_fldK K rfl (pv 0) rfl) (pv 2) (fun _ _ => rfl)) rfl) pa_nil)))) (pss_one (ps_ret (pv 3)))))))), ?_⟩
    unfold doBack at k
    have hp := s0 _ _ R.ins
    refine ⟨_, rfl, x.p, _, _, rfl, hp, wf_no (by decide +kernel), _, rfl, A, x, W, h, rfl, s0, R, fun hk => ?_, fun hk => ?_⟩
    · rw [if_neg (fun z => z hk)] at k
      refine ⟨_, rfl, x.p, _, _, _, _, rfl, hp, T.cl_Wood, T.a_tops, wf_tops, _, rfl, x.ta, _, _, _, rfl, rfl, SqL.of (s0 _ _ R.tps), atI_tops hk, ?_⟩
      refine ⟨_, rfl, rfl, _, rfl, ?_⟩
      cases et : top W h with
      | none =>
        rw [et] at k
        exact iteT (k _ (Same.refl _))
      | some r =>
        rw [et] at k
        obtain ⟨f, e⟩ := F.topIn h r et
        simp only [e] at k
        have hfr := s0 _ _ (R.fr r f e)
        refine iteF ⟨_, rfl, x.p, _, _, _, _, rfl, hp, T.cl_Wood, T.a_frames, wf_frames, _, rfl, x.fa, _, rfl, get_fr (s0 _ _ R.frs) e, x.fo r, _, _, _, _, rfl, hfr, T.cl_Frame, T.a_slots, ff_slots, x.so r, _, rfl, .inl (SqL.of (s0 _ _ (R.sl r f e))), fun l nl => ?_⟩
        have S1 := (Stp.refl s0).gar nl (.lst (f.slots.map V.int))
        have hp1 := S1.own _ _ R.ins
        have hin : ∀ k, f.below = some k → ∃ f, lk W.frames k = some f := fun b hb => F.wf.bin r f b e hb
        refine ⟨_, rfl, x.p, _, _, rfl, hp1, wf_no (by decide +kernel), _, rfl, _, rfl, x.p, _, _, _, _, rfl, hp1, T.cl_Wood, T.a_frames, wf_frames, _, rfl, x.fa, _, rfl, get_fr (S1.own _ _ R.frs) e, x.fo r, _, _, _, _, rfl, S1.own _ _ (R.fr r f e), T.cl_Frame, T.a_below, ff_below, ?_⟩
        refine ⟨A, x, W, h, f.below, _, rfl, S1.own, R, hk, hin, turn_goal F hk hin, F.wf.nd, fun A2 H2 R2 S2 => ?_⟩
        have nA2 : A2 l = none := by
          cases q : A2 l with
          | none => rfl
          | some u =>
            have := S2.new l (off_newA s0 nl) (by rw [q]; simp)
            rw [upd_same] at this; cases this
        refine ⟨_, rfl, k l nl A2 x H2 rfl R2 (S1.trans S2) nA2 ?_⟩
        exact S2.oth l _ upd_same ((Stp.refl s0).free nl)
    · rw [if_pos hk] at k
      exact k _ (Same.refl _)
theorem ok_Wood_branch (T : Txt K mg) : FnOk P w K mg base (L2.CX P w) 3 (aW K "branch") (fdOf K (aW K "branch")) ["self", "hand", "other"] (spBranch K) := by
  refine T.F_Wood_branch.ok (CX := L2.CX P w) sc_Wood_branch (fun vs H Q E h => ?_) (fun cdv A outer s H vs Q E hr h => ?_)
  · obtain ⟨_, _, _, _, _, rfl, _⟩ := h; rfl
  · obtain ⟨A, x, W, h, o, rfl, ⟨s0, R, F⟩, k⟩ := h
    refine ⟨_, (pss_cons (ps_expr (pe_meth (pv 0) T.cl_Wood T.m_need_hand (ok_Wood_need_hand T) (hr.mono (by decide)) T.b_Wood_need_hand .nil (passes_call (takes_of rfl rfl rfl rfl) (fun _ _ _ _ h => h)) (pa_cons (pv 1) pa_nil))) (pss_cons (ps_expr (pe_meth (pv 0) T.cl_Wood T.m_need_hand (ok_Wood_need_hand T) (hr.mono (by decide)) T.b_Wood_need_hand .nil (passes_call (takes_of rfl rfl rfl rfl) (fun _ _ _ _ h => h)) (pa_cons (pv 2) pa_nil))) (pss_one (ps_expr (pe_meth (pv 0) T.cl_Wood T.m_turn_to (ok_Wood_turn_to T) (hr.mono (by decide)) T.b_Wood_turn_to .nil pass0 (pa_cons (pv 2) (pa_cons (pe_ix (ix_listK K rfl) (pe_fldK K rfl (pv 0) rfl) (pv 1) (fun _ _ => rfl)) pa_nil))))))), ?_⟩
    unfold doBranch at k
    have hp := s0 _ _ R.ins
    refine ⟨_, rfl, x.p, _, _, rfl, hp, wf_no (by decide +kernel), _, rfl, A, x, W, h, rfl, s0, R, fun hk => ?_, fun hk => ?_⟩
    · rw [if_neg (fun z => z hk)] at k
      refine ⟨_, rfl, x.p, _, _, rfl, hp, wf_no (by decide +kernel), _, rfl, A, x, W, o, rfl, s0, R, fun ho => ?_, fun ho => ?_⟩
      · rw [if_neg (fun z => z ho)] at k
        refine ⟨_, rfl, x.p, _, _, rfl, hp, wf_no (by decide +kernel), _, rfl, _, rfl, x.p, _, _, _, _, rfl, hp, T.cl_Wood, T.a_tops, wf_tops, _, rfl, x.ta, _, _, _, rfl, rfl, SqL.of (s0 _ _ R.tps), atI_tops hk, ?_⟩
        exact ⟨A, x, W, o, top W h, _, rfl, s0, R, ho, F.topIn h, turn_goal F ho (F.topIn h), F.wf.nd, fun A2 H2 R2 S2 => k A2 x H2 rfl R2 S2⟩
      · rw [if_pos ho] at k
        exact k _ (Same.refl _)
    · rw [if_pos hk] at k
      exact k _ (Same.refl _)
theorem ok_Wood_keep (T : Txt K mg) : FnOk P w K mg base (L2.CX P w) 2 (aW K "keep") (fdOf K (aW K "keep")) ["self", "hand"] (spKeep K) := by
  refine T.F_Wood_keep.ok (CX := L2.CX P w) sc_Wood_keep (fun vs H Q E h => ?_) (fun cdv A outer s H vs Q E hr h => ?_)
  · obtain ⟨_, _, _, _, rfl, _⟩ := h; rfl
  · obtain ⟨A, x, W, h, rfl, ⟨s0, R, F⟩, hm, k⟩ := h
    refine ⟨_, (pss_cons (ps_expr (pe_meth (pv 0) T.cl_Wood T.m_need_hand (ok_Wood_need_hand T) (hr.mono (by decide)) T.b_Wood_need_hand .nil (passes_call (takes_of rfl rfl rfl rfl) (fun _ _ _ _ h => h)) (pa_cons (pv 1) pa_nil))) (pss_cons (ps_expr (pe_meth (pv 0) T.cl_Wood T.m_want (ok_Wood_want T) (hr.mono (by decide)) T.b_Wood_want .nil pass0 (pa_cons (pe_ix (ix_listK K rfl) (pe_fldK K rfl (pv 0) rfl) (pv 1) (fun _ _ => rfl)) pa_nil))) (pss_cons (ps_dput (hu_of hr) (pe_fldK K rfl (pv 0) rfl) (pe_fldK K rfl (pv 0) rfl) (pe_ix (ix_listK K rfl) (pe_fldK K rfl (pv 0) rfl) (pv 1) (fun _ _ => rfl)) rfl) (pss_cons (ps_fld (pv 0) (pe_op op_add (pe_fldK K rfl (pv 0) rfl) pe_int) rfl) (pss_one (ps_ret (pe_op op_sub (pe_fldK K rfl (pv 0) rfl) pe_int))))))), ?_⟩
    unfold doKeep at k
    have hp := s0 _ _ R.ins
    refine ⟨_, rfl, x.p, _, _, rfl, hp, wf_no (by decide +kernel), _, rfl, A, x, W, h, rfl, s0, R, fun hk => ?_, fun hk => ?_⟩
    · rw [if_neg (fun z => z hk)] at k
      refine ⟨_, rfl, x.p, _, _, rfl, hp, wf_no (by decide +kernel), _, rfl, x.p, _, _, _, _, rfl, hp, T.cl_Wood, T.a_tops, wf_tops, _, rfl, x.ta, _, _, _, rfl, rfl, SqL.of (s0 _ _ R.tps), atI_tops hk, ?_⟩
      refine ⟨A, x, W, top W h, rfl, s0, R, F.topIn h, fun A1 H1 R1 S1 => ?_⟩
      have hp1 := S1.own _ _ R1.ins
      have nm : lk W.marks W.many = none := by
        rw [← not_mem_ks]; intro h; have := F.mr _ h; omega
      refine ⟨_, rfl, x.p, _, _, _, _, rfl, hp1, T.cl_Wood, T.a_tops, wf_tops, _, rfl, x.ta, _, _, _, rfl, rfl, SqL.of (S1.own _ _ R1.tps), (show atI (W.tops.map oV) h = some (oV (top W h)) from atI_tops hk), ?_⟩
      refine ⟨_, rfl, x.p, _, _, _, _, rfl, hp1, T.cl_Wood, T.a_marks, wf_marks, _, rfl, x.p, _, _, _, _, rfl, hp1, T.cl_Wood, T.a_many, wf_many, x.ma, _, rfl, DPut.k (k := Sum.inl W.many) (show H1 x.ma = some (.dK (mkV W.marks)) from S1.own _ _ R1.mks) (szl (by rw [mkV_len]; exact hm)), ?_⟩
      rw [show putK (mkV W.marks) (Sum.inl W.many) (oV (top W h)) = mkV (pt W.marks W.many (top W h)) from putK_mk _ nm]
      have R2 := R1.setMarks (pt W.marks W.many (top W h))
      have S2 := S1.upd R1.mks (.dK (mkV (pt W.marks W.many (top W h))))
      have hp2 := S2.own _ _ R2.ins
      refine ⟨_, rfl, x.p, _, _, _, _, rfl, hp2, T.cl_Wood, T.a_many, wf_many, _, _, rfl, rfl, _, rfl, x.p, _, _, _, rfl, hp2, T.cl_Wood, T.a_many, by show 6 < 1000; decide, ?_⟩
      have R3 := R2.setNums (W.many + 1) W.made
      have S3 := S2.upd R2.ins (.ins (wK K) x.dx (wF { W with many := W.many + 1 } x.fa x.ta x.ma))
      refine ⟨_, rfl, x.p, _, _, _, _, rfl, upd_same, T.cl_Wood, T.a_many, (by rfl), _, _, rfl, rfl, ?_⟩
      have e : V.int (W.many + 1 - 1) = V.int W.many := by congr 1; omega
      show Q (V.int (W.many + 1 - 1)) _
      rw [e]
      exact k _ _ _ rfl R3 S3
    · rw [if_pos hk] at k
      exact k _ (Same.refl _)
theorem ok_Wood_leap (T : Txt K mg) : FnOk P w K mg base (L2.CX P w) 3 (aW K "leap") (fdOf K (aW K "leap")) ["self", "hand", "place"] (spLeap K) := by
  refine T.F_Wood_leap.ok (CX := L2.CX P w) sc_Wood_leap (fun vs H Q E h => ?_) (fun cdv A outer s H vs Q E hr h => ?_)
  · obtain ⟨_, _, _, _, _, rfl, _⟩ := h; rfl
  · obtain ⟨A, x, W, h, p, rfl, ⟨s0, R, F⟩, k⟩ := h
    refine ⟨_, (pss_cons (ps_expr (pe_meth (pv 0) T.cl_Wood T.m_need_hand (ok_Wood_need_hand T) (hr.mono (by decide)) T.b_Wood_need_hand .nil (passes_call (takes_of rfl rfl rfl rfl) (fun _ _ _ _ h => h)) (pa_cons (pv 1) pa_nil))) (pss_cons (ps_expr (pe_meth (pv 0) T.cl_Wood T.m_need_place (ok_Wood_need_place T) (hr.mono (by decide)) T.b_Wood_need_place .nil (passes_call (takes_of rfl rfl rfl rfl) (fun _ _ _ _ h => h)) (pa_cons (pv 2) pa_nil))) (pss_one (ps_expr (pe_meth (pv 0) T.cl_Wood T.m_turn_to (ok_Wood_turn_to T) (hr.mono (by decide)) T.b_Wood_turn_to .nil pass0 (pa_cons (pv 1) (pa_cons (pe_dget (hu_of hr) (pe_fldK K rfl (pv 0) rfl) (pv 2) (fun _ _ => rfl)) pa_nil))))))), ?_⟩
    unfold doLeap at k
    have hp := s0 _ _ R.ins
    refine ⟨_, rfl, x.p, _, _, rfl, hp, wf_no (by decide +kernel), _, rfl, A, x, W, h, rfl, s0, R, fun hk => ?_, fun hk => ?_⟩
    · rw [if_neg (fun z => z hk)] at k
      refine ⟨_, rfl, x.p, _, _, rfl, hp, wf_no (by decide +kernel), _, rfl, A, x, W, p, rfl, s0, R, fun y hy => ?_, fun hn => ?_⟩
      · simp only [hy] at k
        have hin := F.ref (.inr (lk_mv hy))
        have hget : DGet H x.ma (V.int p) (some (oV y)) := by
          have := DGet.k (k := Sum.inl p) (s0 _ _ R.mks)
          rw [valV_mk, hy] at this; exact this
        refine ⟨_, rfl, x.p, _, _, rfl, hp, wf_no (by decide +kernel), _, rfl, _, rfl, x.p, _, _, _, _, rfl, hp, T.cl_Wood, T.a_marks, wf_marks, _, rfl, x.ma, _, rfl, hget, ?_⟩
        exact ⟨A, x, W, h, y, _, rfl, s0, R, hk, hin, turn_goal F hk hin, F.wf.nd, fun A2 H2 R2 S2 => k A2 x H2 rfl R2 S2⟩
      · simp only [hn] at k
        exact k _ (Same.refl _)
    · rw [if_pos hk] at k
      exact k _ (Same.refl _)
theorem ok_Wood_forget (T : Txt K mg) : FnOk P w K mg base (L2.CX P w) 2 (aW K "forget") (fdOf K (aW K "forget")) ["self", "place"] (spForget K) := by
  refine T.F_Wood_forget.ok (CX := L2.CX P w) sc_Wood_forget (fun vs H Q E h => ?_) (fun cdv A outer s H vs Q E hr h => ?_)
  · obtain ⟨_, _, _, _, rfl, _⟩ := h; rfl
  · obtain ⟨A, x, W, p, rfl, ⟨s0, R, F⟩, k⟩ := h
    refine ⟨_, (pss_cons (ps_expr (pe_meth (pv 0) T.cl_Wood T.m_need_place (ok_Wood_need_place T) (hr.mono (by decide)) T.b_Wood_need_place .nil (passes_call (takes_of rfl rfl rfl rfl) (fun _ _ _ _ h => h)) (pa_cons (pv 1) pa_nil))) (pss_one (ps_expr (pe_meth (pv 0) T.cl_Wood T.m_leave (ok_Wood_leave T) (hr.mono (by decide)) T.b_Wood_leave .nil pass0 (pa_cons (pe_dpop1 (pe_fldK K rfl (pv 0) rfl) (pv 1) ⟨rfl, rfl, rfl, rfl⟩) pa_nil))))), ?_⟩
    have hp := s0 _ _ R.ins
    refine ⟨_, rfl, x.p, _, _, rfl, hp, wf_no (by decide +kernel), _, rfl, A, x, W, p, rfl, s0, R, fun y hy => ?_, fun hn => ?_⟩
    · have ef : doForget W p = .ok { W with frames := leave W.frames y, marks := dr W.marks p } := by unfold doForget; rw [hy]
      obtain ⟨y', hy', lv, F', _⟩ := doForget_ok F ef
      rw [hy] at hy'; cases hy'
      rw [ef] at k
      refine ⟨_, rfl, x.p, _, _, rfl, hp, wf_no (by decide +kernel), _, rfl, x.p, _, _, _, _, rfl, hp, T.cl_Wood, T.a_marks, wf_marks, x.ma, rfl, .inl ⟨_, .inl (s0 _ _ R.mks)⟩, _, rfl, _, Sum.inl p, oV y, s0 _ _ R.mks, rfl, by rw [valV_mk, hy]; rfl, ?_⟩
      rw [dropK_mk]
      exact ⟨_, x, { W with marks := dr W.marks p }, y, _, rfl, ((Stp.refl s0).upd R.mks _).own, R.setMarks _, lv, F.wf.nd, fun A2 H2 R2 S2 => k A2 x H2 rfl R2 (((Stp.refl s0).upd R.mks _).trans S2)⟩
    · unfold doForget at k
      simp only [hn] at k
      exact k _ (Same.refl _)
end
end Sk
end
section
/-! SwM3: a wood is made; what it tells. -/
namespace Sk
open PySem PySem.Spec PyProof.Rows L2 SW
def newW (hands rooms : Int) : Wd := ⟨rooms, [], List.replicate hands.toNat none, [], 0, 0⟩
theorem newW_wf {hands rooms : Int} (h1 : 1 ≤ hands) (h6 : hands ≤ 6) (r1 : 1 ≤ rooms) (r40 : rooms ≤ 40) : WFW (newW hands rooms) := by
  have c0 : ∀ (n : Nat) r, cR (List.replicate n none) r = 0 := by
    intro n r
    induction n with
    | zero => rfl
    | succ n ih => rw [List.replicate_succ]; simp [cR, ih, one_none]
  refine ⟨⟨by simp [newW, ks], fun r f e => by simp [newW, lk] at e, fun r f e => by simp [newW, lk] at e, fun r h => ?_, fun k f r e => by simp [newW, lk] at e, fun r f e => by simp [newW, lk] at e⟩, r1, r40, fun r hr => by simp [newW, ks] at hr, by simp [newW, ks], fun k hk => by simp [newW, ks] at hk, Int.le_refl _, ?_, ?_⟩
  · have : 1 ≤ cR (List.replicate hands.toNat none) r + cR (mv []) r := h
    rw [c0] at this
    simp [mv, cR] at this
  · simp [newW]; omega
  · simp [newW]; omega
/-- a list of lists of ints: its cells -/
def LL (H : Hp) (p : Addr) (cs : List (Addr × List Int)) : Prop := H p = some (.lst (cs.map fun c => V.ref c.1)) ∧ ∀ c ∈ cs, H c.1 = some (.lst (c.2.map V.int))
/-- .. all of it new since H -/
structure NewLL (H H' : Hp) (p : Addr) (vs : List (List Int)) (cs : List (Addr × List Int)) : Prop where
  same : Same H H'
  np : H p = none
  ll : LL H' p cs
  vals : cs.map (·.2) = vs
  nd : (p :: cs.map (·.1)).Nodup
  nc : ∀ c ∈ cs, H c.1 = none
def Kp (y : Addr) (H H1 : Hp) : Prop := ∀ b o, b ≠ y → H b = some o → H1 b = some o
theorem Kp.y {y : Addr} {H H1 : Hp} (k : Kp y H H1) (o : HO) : Kp y H (upd H1 y o) := fun b u n e => by rw [upd_ne n]; exact k b u n e
theorem Kp.n {y a : Addr} {H H1 : Hp} (k : Kp y H H1) (h : H1 a = none) (o : HO) : Kp y H (upd H1 a o) := fun b u n e => by
  have := k b u n e
  rw [upd_ne (ne_of_none this h)]; exact this
theorem Kp.free {y a : Addr} {H H1 : Hp} (k : Kp y H H1) (h : H1 a = none) (n : a ≠ y) : H a = none := by
  cases e : H a with
  | none => rfl
  | some o => rw [k a o n e] at h; cases h
def oN : Option Nat → V
  | none => .non
  | some i => .int (i : Int)
def InR (hands rooms : Int) : Prop := (1 ≤ hands ∧ hands ≤ 6) ∧ (1 ≤ rooms ∧ rooms ≤ 40)
section
variable (K : PySem.W.Frag)
def spWood : Sp := fun vs H Q E => ∃ (y dx : Addr) (hands rooms : Int), vs = [.ref y, .int hands, .int rooms] ∧ H y = some (.ins (wK K) dx []) ∧
  (InR hands rooms → ∀ A' x' H', x'.p = y → WA K A' x' (newW hands rooms) → Sub A' H' → Kp y H H' → (∀ b, A' b ≠ none → b = y ∨ H b = none) → Q .non H') ∧ (¬ InR hands rooms → E (eC K "BadWood") none H)
def spLook : Sp := fun vs H Q E => ∃ (A : Hp) (x : Ad) (W : Wd) (h : Int), vs = [.ref x.p, .int h] ∧ At K A H x W ∧
  (hOk W h → ∀ H' p cs, NewLL H H' p (vl W.frames (top W h)) cs → Q (.ref p) H') ∧ (¬ hOk W h → Ref K H E .hand)
def spGlance : Sp := fun vs H Q E => ∃ (A : Hp) (x : Ad) (W : Wd) (p : Int), vs = [.ref x.p, .int p] ∧ At K A H x W ∧
  (∀ y, lk W.marks p = some y → ∀ H' p cs, NewLL H H' p (vl W.frames y) cs → Q (.ref p) H') ∧ (lk W.marks p = none → Ref K H E .place)
def spPlaces : Sp := fun vs H Q _ => ∃ (A : Hp) (x : Ad) (W : Wd), vs = [.ref x.p] ∧ At K A H x W ∧ W.marks.length ≤ 10000 ∧ ∀ p, H p = none → Q (.ref p) (upd H p (.lst ((ks W.marks).map V.int)))
def spWay : Sp := fun vs H Q E => ∃ (A : Hp) (x : Ad) (W : Wd) (h d : Int), vs = [.ref x.p, .int h, .int d] ∧ At K A H x W ∧
  match doWay W h d with
  | .error e => Ref K H E e
  | .ok (q, o) => ∀ H' t l, Same H H' → H l = none → H' t = some (.tup [.ref l, oN o]) → H' l = some (.lst (q.map V.int)) → Q (.ref t) H'
def spPrice : Sp := fun vs H Q E => ∃ (A : Hp) (x : Ad) (W : Wd) (h d : Int), vs = [.ref x.p, .int h, .int d] ∧ At K A H x W ∧
  match doPrice W h d with
  | .error e => Ref K H E e
  | .ok n => ∀ H', Same H H' → Q (.int n) H'
end
section
variable {P : Program} {w : World} {K : PySem.W.Frag} {mg : Str → Option Value} {base : Heap}
theorem ok_Wood_init (T : Txt K mg) : FnOk P w K mg base (L2.CX P w) 1 (aW K "__init__") (fdOf K (aW K "__init__")) ["self", "hands", "rooms"] (spWood K) := by
  refine T.F_Wood_init.ok (CX := L2.CX P w) sc_Wood_init (fun vs H Q E h => ?_) (fun cdv A outer s H vs Q E hr h => ?_)
  · obtain ⟨_, _, _, _, rfl, _⟩ := h; rfl
  · obtain ⟨y, dx, hands, rooms, rfl, hy, ky, kn⟩ := h
    refine ⟨_, (pss_cons (ps_if (PW.pt (pw_or (pt_not (pt_chain op_le op_le pe_int (pv 1) (pe_cst T.i_MOST_HANDS rfl))) (pw_or1 (pt_not (pt_chain op_le op_le pe_int (pv 2) (pe_cst T.i_MOST_ROOMS rfl)))))) (pss_one (ps_raise rfl (takes_of rfl rfl rfl rfl) (pmk_own PySem.F.excBase_ValueError T.x_BadWood.1 T.g_BadWood T.x_BadWood.2.1 (raises_own T.x_BadWood.2.2.1 T.x_BadWood.2.2.2) rfl))) pss_nil) (pss_cons (ps_fld (pv 0) (pv 2) rfl) (pss_cons (ps_fld (pv 0) pe_dnewK rfl) (pss_cons (ps_fld (pv 0) (pe_lc (own := [("hand", 3)]) (g := gName 3) rfl sc_Wood_init.nd (pi_range1 rfl T.n_range (pa_cons (pv 1) pa_nil)) (blkOk_by (own := [("hand", 3)]) (N := ["self", "hands", "rooms", "hand"]) (sc := (defScope s_Wood_init)) (by decide +kernel)) (fun _ _ _ _ _ => pg_name (i := 3) sc_Wood_init.nd rfl (Or.inl rfl)) (fun _ _ _ _ _ => by exact pts_nil) (fun _ _ _ _ _ => by exact pe_non)) rfl) (pss_cons (ps_fld (pv 0) pe_dnewK rfl) (pss_cons (ps_fld (pv 0) pe_int rfl) (pss_one (ps_fld (pv 0) pe_int rfl)))))))), ?_⟩
    refine ⟨_, rfl, _, _, rfl, rfl, _, rfl, ?_⟩
    by_cases a1 : 1 ≤ hands
    · rw [decide_eq_true a1]
      refine iteT ⟨_, _, rfl, rfl, _, rfl, ?_⟩
      by_cases a2 : hands ≤ 6
      · rw [decide_eq_true a2]
        refine iteF ⟨_, rfl, _, _, rfl, rfl, _, rfl, ?_⟩
        by_cases b1 : 1 ≤ rooms
        · rw [decide_eq_true b1]
          refine iteT ⟨_, _, rfl, rfl, _, rfl, ?_⟩
          by_cases b2 : rooms ≤ 40
          · rw [decide_eq_true b2]
            refine iteF ?_
            refine ⟨_, rfl, _, rfl, y, _, _, _, rfl, hy, T.cl_Wood, T.a_rooms, by show 0 < 1000; decide, ?_⟩
            have k0 : Kp y H H := fun _ _ _ e => e
            have k1 := k0.y (.ins (wK K) dx (putF "rooms" (V.int rooms) []))
            intro fa nf
            have nfy : fa ≠ y := fun z => by rw [z, upd_same] at nf; cases nf
            have k2 := k1.n nf (.dK [])
            refine ⟨_, rfl, y, _, _, _, rfl, (upd_ne nfy.symm).trans upd_same, T.cl_Wood, T.a_frames, by show 1 < 1000; decide, ?_⟩
            have k3 := k2.y (.ins (wK K) dx (putF "frames" (V.ref fa) (putF "rooms" (V.int rooms) [])))
            refine ⟨_, rfl, hands, rfl, by omega, by omega, fun ta nt => ?_⟩
            have nty : ta ≠ y := fun z => by rw [z, upd_same] at nt; cases nt
            have ntf : ta ≠ fa := fun z => by rw [z, upd_ne nfy, upd_same] at nt; cases nt
            refine lc_range (lo := 0) (n := hands.toNat) (fun i H' => H' = upd (upd (upd (upd H y (.ins (wK K) dx (putF "rooms" (V.int rooms) []))) fa (.dK [])) y (.ins (wK K) dx (putF "frames" (V.ref fa) (putF "rooms" (V.int rooms) [])))) ta (.lst (List.replicate i V.non))) rfl ?_ ?_
            · rintro i H' hi rfl
              refine ⟨rfl, yesT rfl ?_⟩
              refine ⟨_, upd_same, szl (by rw [List.length_replicate]; omega), ?_⟩
              rw [upd_upd, List.replicate_succ']
            · rintro H' rfl
              have k4 := k3.n nt (.lst (List.replicate hands.toNat V.non))
              refine ⟨_, rfl, y, _, _, _, rfl, (upd_ne nty.symm).trans upd_same, T.cl_Wood, T.a_tops, by show 2 < 1000; decide, ?_⟩
              have k5 := k4.y (.ins (wK K) dx (putF "tops" (V.ref ta) (putF "frames" (V.ref fa) (putF "rooms" (V.int rooms) []))))
              intro ma nm
              have nmy : ma ≠ y := fun z => by rw [z, upd_same] at nm; cases nm
              have nmt : ma ≠ ta := fun z => by rw [z, upd_ne nty, upd_same] at nm; cases nm
              have nmf : ma ≠ fa := fun z => by rw [z, upd_ne nfy, upd_ne ntf.symm, upd_ne nfy, upd_same] at nm; cases nm
              have k6 := k5.n nm (.dK [])
              refine ⟨_, rfl, y, _, _, _, rfl, (upd_ne nmy.symm).trans upd_same, T.cl_Wood, T.a_marks, by show 3 < 1000; decide, ?_⟩
              refine ⟨_, rfl, y, _, _, _, rfl, upd_same, T.cl_Wood, T.a_many, by show 4 < 1000; decide, ?_⟩
              refine ⟨_, rfl, y, _, _, _, rfl, upd_same, T.cl_Wood, T.a_made, by show 5 < 1000; decide, ?_⟩
              have k9 := ((k6.y (.ins (wK K) dx (putF "marks" (V.ref ma) (putF "tops" (V.ref ta) (putF "frames" (V.ref fa) (putF "rooms" (V.int rooms) [])))))).y (.ins (wK K) dx (putF "many" (V.int 0) (putF "marks" (V.ref ma) (putF "tops" (V.ref ta) (putF "frames" (V.ref fa) (putF "rooms" (V.int rooms) []))))))).y (.ins (wK K) dx (putF "made" (V.int 0) (putF "many" (V.int 0) (putF "marks" (V.ref ma) (putF "tops" (V.ref ta) (putF "frames" (V.ref fa) (putF "rooms" (V.int rooms) [])))))))
              have nfH : H fa = none := k1.free nf nfy
              have ntH : H ta = none := k3.free nt nty
              have nmH : H ma = none := k5.free nm nmy
              refine ky ⟨⟨a1, a2⟩, b1, b2⟩ (upd (upd (upd (upd (fun _ => none) fa (.dK [])) ta (.lst (List.replicate hands.toNat V.non))) ma (.dK [])) y (.ins (wK K) dx (wF (newW hands rooms) fa ta ma))) ⟨y, dx, fa, ta, ma, fun _ => 0, fun _ => 0, fun _ => 0⟩ _ rfl ⟨upd_same, ?_, ?_, ?_, fun r f e => by simp [newW, lk] at e, fun r f e => by simp [newW, lk] at e, fun r s f g e => by simp [newW, lk] at e, fun r s f g e => by simp [newW, lk] at e, fun r f e => by simp [newW, lk] at e, nmf.symm, fun r f e => by simp [newW, lk] at e⟩ (fun b o e => ?_) k9 (fun b hb => ?_)
              · rw [upd_ne nfy, upd_ne nmf.symm, upd_ne ntf.symm, upd_same]; rfl
              · rw [upd_ne nty, upd_ne nmt.symm, upd_same]
                show some (HO.lst (List.replicate hands.toNat V.non)) = some (.lst ((List.replicate hands.toNat (none : Option Int)).map oV))
                rw [List.map_replicate]; rfl
              · rw [upd_ne nmy, upd_same]; rfl
              · by_cases z1 : b = y
                · subst z1; rw [upd_same] at e ⊢; exact e
                · rw [upd_ne z1] at e
                  rw [upd_ne z1, upd_ne z1, upd_ne z1]
                  by_cases z2 : b = ma
                  · subst z2; rw [upd_same] at e ⊢; exact e
                  · rw [upd_ne z2] at e
                    rw [upd_ne z2, upd_ne z1]
                    by_cases z3 : b = ta
                    · subst z3; rw [upd_same] at e ⊢; exact e
                    · rw [upd_ne z3] at e
                      rw [upd_ne z3, upd_ne z1]
                      by_cases z4 : b = fa
                      · subst z4; rw [upd_same] at e ⊢; exact e
                      · rw [upd_ne z4] at e; cases e
              · by_cases z1 : b = y
                · exact .inl z1
                · rw [upd_ne z1] at hb
                  by_cases z2 : b = ma
                  · exact .inr (z2 ▸ nmH)
                  · rw [upd_ne z2] at hb
                    by_cases z3 : b = ta
                    · exact .inr (z3 ▸ ntH)
                    · rw [upd_ne z3] at hb
                      by_cases z4 : b = fa
                      · exact .inr (z4 ▸ nfH)
                      · rw [upd_ne z4] at hb; exact absurd rfl hb
          · rw [decide_eq_false b2]
            exact iteT (kn fun z => b2 z.2.2)
        · rw [decide_eq_false b1]
          exact iteF ⟨_, rfl, iteT (kn fun z => b1 z.2.1)⟩
      · rw [decide_eq_false a2]
        exact iteT (kn fun z => a2 z.1.2)
    · rw [decide_eq_false a1]
      exact iteF ⟨_, rfl, iteT (kn fun z => a1 z.1.1)⟩
/-- the values of the rooms of a pile, as new lists -/
theorem ll_step {H H1 : Hp} {D l : Addr} {zs : List (List Int)} {cs : List (Addr × List Int)} {z : List Int} (N : NewLL H H1 D zs cs) (nl : H1 l = none) : NewLL H (upd (upd H1 l (.lst (z.map V.int))) D (.lst (cs.map (fun c => V.ref c.1) ++ [V.ref l]))) D (zs ++ [z]) (cs ++ [(l, z)]) := by
  have nD : D ≠ l := ne_of_none N.ll.1 nl
  have nHl : H l = none := by
    cases e : H l with
    | none => rfl
    | some o => rw [N.same l o e] at nl; cases nl
  have nDc : ∀ c ∈ cs, c.1 ≠ D := fun c hc z => (List.nodup_cons.mp N.nd).1 (List.mem_map.mpr ⟨c, hc, z⟩)
  refine ⟨fun b o e => ?_, N.np, ⟨?_, fun c hc => ?_⟩, by rw [List.map_append, N.vals]; rfl, ?_, fun c hc => ?_⟩
  · rw [upd_ne (ne_of_none e N.np), upd_ne (ne_of_none e nHl)]; exact N.same b o e
  · rw [upd_same, List.map_append]; rfl
  · rcases List.mem_append.mp hc with q | q
    · rw [upd_ne (nDc c q), upd_ne (ne_of_none (N.ll.2 c q) nl)]; exact N.ll.2 c q
    · have : c = (l, z) := by simpa using q
      subst this
      rw [upd_ne nD.symm, upd_same]
  · rw [List.map_append]
    show ((D :: cs.map (·.1)) ++ [l]).Nodup
    rw [List.nodup_append]
    refine ⟨N.nd, by simp, fun a ha b hb e => ?_⟩
    have : b = l := by simpa using hb
    subst this; subst e
    rcases List.mem_cons.mp ha with q | q
    · exact nD q.symm
    · obtain ⟨c, hc, e⟩ := List.mem_map.mp q
      have := N.ll.2 c hc
      rw [e, nl] at this; cases this
  · rcases List.mem_append.mp hc with q | q
    · exact N.nc c q
    · have : c = (l, z) := by simpa using q
      subst this; exact nHl
theorem ll_start {H : Hp} {D : Addr} (n : H D = none) : NewLL H (upd H D (.lst [])) D [] [] :=
  ⟨same_new n _, n, ⟨upd_same, fun c hc => by simp at hc⟩, rfl, by simp, fun c hc => by simp at hc⟩
theorem NewLL.back {H0 H H1 : Hp} {p : Addr} {vs : List (List Int)} {cs : List (Addr × List Int)} (N : NewLL H H1 p vs cs) (s : Same H0 H) : NewLL H0 H1 p vs cs where
  same := s.trans N.same
  np := s.free N.np
  ll := N.ll
  vals := N.vals
  nd := N.nd
  nc := fun c hc => s.free (N.nc c hc)
theorem ok_Wood_look (T : Txt K mg) : FnOk P w K mg base (L2.CX P w) 2 (aW K "look") (fdOf K (aW K "look")) ["self", "hand"] (spLook K) := by
  refine T.F_Wood_look.ok (CX := L2.CX P w) sc_Wood_look (fun vs H Q E h => ?_) (fun cdv A outer s H vs Q E hr h => ?_)
  · obtain ⟨_, _, _, _, rfl, _⟩ := h; rfl
  · obtain ⟨A, x, W, h, rfl, ⟨s0, R, F⟩, ky, kn⟩ := h
    refine ⟨_, (pss_cons (ps_expr (pe_meth (pv 0) T.cl_Wood T.m_need_hand (ok_Wood_need_hand T) (hr.mono (by decide)) T.b_Wood_need_hand .nil (passes_call (takes_of rfl rfl rfl rfl) (fun _ _ _ _ h => h)) (pa_cons (pv 1) pa_nil))) (pss_one (ps_ret (pe_lc (own := [("room", 2)]) (g := gName 2) rfl sc_Wood_look.nd (pi_listK K rfl (pe_meth (pv 0) T.cl_Wood T.m_path (ok_Wood_path T) (hr.mono (by decide)) T.b_Wood_path .nil pass0 (pa_cons (pe_ix (ix_listK K rfl) (pe_fldK K rfl (pv 0) rfl) (pv 1) (fun _ _ => rfl)) pa_nil))) (blkOk_by (own := [("room", 2)]) (N := ["self", "hand", "room"]) (sc := (defScope s_Wood_look)) (by decide +kernel)) (fun _ _ _ _ _ => pg_name (i := 2) sc_Wood_look.nd rfl (Or.inl rfl)) (fun _ _ _ _ _ => by exact pts_nil) (fun _ _ _ _ _ => by exact (pe_callTy (call_listK K rfl) rfl T.n_list (by decide +kernel) (pa_cons (pe_fldK K rfl (pe_dget (hu_of hr) (pe_fldK K rfl (pv 0) rfl) (pv 2) (fun _ _ => rfl)) rfl) pa_nil))))))), ?_⟩
    have hp := s0 _ _ R.ins
    refine ⟨_, rfl, x.p, _, _, rfl, hp, wf_no (by decide +kernel), _, rfl, A, x, W, h, rfl, s0, R, fun hk => ?_, fun hk => kn hk _ (Same.refl _)⟩
    have hl := F.tpath h
    generalize el : path W.frames (top W h) = l at hl
    have hlen : l.length ≤ 40 := Nat.le_trans hl.len F.len
    refine ⟨_, rfl, x.p, _, _, rfl, hp, wf_no (by decide +kernel), _, rfl, x.p, _, _, _, _, rfl, hp, T.cl_Wood, T.a_tops, wf_tops, _, rfl, x.ta, _, _, _, rfl, rfl, SqL.of (s0 _ _ R.tps), atI_tops hk, A, x, W, top W h, l, rfl, s0, R, hl, by omega, fun q nq => ?_⟩
    have eq1 := same_new nq (.lst (l.map V.int))
    refine ⟨q, rfl, ⟨_, SqL.of upd_same⟩, fun D nD => ?_⟩
    refine lc_list (K := K) (a := q) (xs := l.map V.int) (fun i H' => ∃ cs, NewLL (upd H q (.lst (l.map V.int))) H' D ((l.take i).map (sl W.frames)) cs) ⟨[], ll_start nD⟩ (fun i H' _ ⟨cs, N⟩ => SqL.of (N.same _ _ upd_same)) ?_ ?_
    · rintro i v H' hi ⟨cs, N⟩
      obtain ⟨r, hr', rfl⟩ : ∃ r, l[i]? = some r ∧ v = V.int r := by
        rw [List.getElem?_map] at hi
        cases e : l[i]? with
        | none => rw [e] at hi; cases hi
        | some r => rw [e] at hi; exact ⟨r, rfl, (Option.some.inj hi).symm⟩
      obtain ⟨f, e⟩ := hl.in r (List.mem_of_getElem? hr')
      have up : ∀ {b : Addr} {o : HO}, A b = some o → H' b = some o := fun {b o} e => N.same _ _ (eq1 _ _ (s0 _ _ e))
      refine ⟨rfl, yesT rfl ?_⟩
      refine ⟨_, rfl, x.p, _, _, _, _, rfl, up R.ins, T.cl_Wood, T.a_frames, wf_frames, _, rfl, x.fa, _, rfl, get_fr (up R.frs) e, x.fo r, _, _, _, _, rfl, up (R.fr r f e), T.cl_Frame, T.a_slots, ff_slots, x.so r, _, rfl, .inl (SqL.of (up (R.sl r f e))), fun a na => ?_⟩
      refine ⟨_, (upd_ne (ne_of_none N.ll.1 na)).trans N.ll.1, szl ?_, cs ++ [(a, f.slots)], ?_⟩
      · rw [List.length_map]
        have := congrArg List.length N.vals
        rw [List.length_map, List.length_map, List.length_take] at this
        omega
      · have := ll_step (z := f.slots) N na
        rw [take_snoc hr', List.map_append]
        simpa [sl_of e] using this
    · rintro H' ⟨cs, N⟩
      rw [List.length_map, List.take_length] at N
      refine ky hk H' D cs ?_
      have : vl W.frames (top W h) = l.map (sl W.frames) := by unfold vl; rw [el]
      rw [this]
      exact N.back eq1
theorem ok_Wood_glance (T : Txt K mg) : FnOk P w K mg base (L2.CX P w) 2 (aW K "glance") (fdOf K (aW K "glance")) ["self", "place"] (spGlance K) := by
  refine T.F_Wood_glance.ok (CX := L2.CX P w) sc_Wood_glance (fun vs H Q E h => ?_) (fun cdv A outer s H vs Q E hr h => ?_)
  · obtain ⟨_, _, _, _, rfl, _⟩ := h; rfl
  · obtain ⟨A, x, W, p, rfl, ⟨s0, R, F⟩, ky, kn⟩ := h
    refine ⟨_, (pss_cons (ps_expr (pe_meth (pv 0) T.cl_Wood T.m_need_place (ok_Wood_need_place T) (hr.mono (by decide)) T.b_Wood_need_place .nil (passes_call (takes_of rfl rfl rfl rfl) (fun _ _ _ _ h => h)) (pa_cons (pv 1) pa_nil))) (pss_one (ps_ret (pe_lc (own := [("room", 2)]) (g := gName 2) rfl sc_Wood_glance.nd (pi_listK K rfl (pe_meth (pv 0) T.cl_Wood T.m_path (ok_Wood_path T) (hr.mono (by decide)) T.b_Wood_path .nil pass0 (pa_cons (pe_dget (hu_of hr) (pe_fldK K rfl (pv 0) rfl) (pv 1) (fun _ _ => rfl)) pa_nil))) (blkOk_by (own := [("room", 2)]) (N := ["self", "place", "room"]) (sc := (defScope s_Wood_glance)) (by decide +kernel)) (fun _ _ _ _ _ => pg_name (i := 2) sc_Wood_glance.nd rfl (Or.inl rfl)) (fun _ _ _ _ _ => by exact pts_nil) (fun _ _ _ _ _ => by exact (pe_callTy (call_listK K rfl) rfl T.n_list (by decide +kernel) (pa_cons (pe_fldK K rfl (pe_dget (hu_of hr) (pe_fldK K rfl (pv 0) rfl) (pv 2) (fun _ _ => rfl)) rfl) pa_nil))))))), ?_⟩
    have hp := s0 _ _ R.ins
    refine ⟨_, rfl, x.p, _, _, rfl, hp, wf_no (by decide +kernel), _, rfl, A, x, W, p, rfl, s0, R, fun y hk => ?_, fun hk => kn hk _ (Same.refl _)⟩
    have hl := F.wf.path y (F.ref (.inr (lk_mv hk)))
    generalize el : path W.frames y = l at hl
    have hget : DGet H x.ma (V.int p) (some (oV y)) := by
      have := DGet.k (k := Sum.inl p) (s0 _ _ R.mks)
      rw [valV_mk, hk] at this; exact this
    have hlen : l.length ≤ 40 := Nat.le_trans hl.len F.len
    refine ⟨_, rfl, x.p, _, _, rfl, hp, wf_no (by decide +kernel), _, rfl, x.p, _, _, _, _, rfl, hp, T.cl_Wood, T.a_marks, wf_marks, _, rfl, x.ma, _, rfl, hget, A, x, W, y, l, rfl, s0, R, hl, by omega, fun q nq => ?_⟩
    have eq1 := same_new nq (.lst (l.map V.int))
    refine ⟨q, rfl, ⟨_, SqL.of upd_same⟩, fun D nD => ?_⟩
    refine lc_list (K := K) (a := q) (xs := l.map V.int) (fun i H' => ∃ cs, NewLL (upd H q (.lst (l.map V.int))) H' D ((l.take i).map (sl W.frames)) cs) ⟨[], ll_start nD⟩ (fun i H' _ ⟨cs, N⟩ => SqL.of (N.same _ _ upd_same)) ?_ ?_
    · rintro i v H' hi ⟨cs, N⟩
      obtain ⟨r, hr', rfl⟩ : ∃ r, l[i]? = some r ∧ v = V.int r := by
        rw [List.getElem?_map] at hi
        cases e : l[i]? with
        | none => rw [e] at hi; cases hi
        | some r => rw [e] at hi; exact ⟨r, rfl, (Option.some.inj hi).symm⟩
      obtain ⟨f, e⟩ := hl.in r (List.mem_of_getElem? hr')
      have up : ∀ {b : Addr} {o : HO}, A b = some o → H' b = some o := fun {b o} e => N.same _ _ (eq1 _ _ (s0 _ _ e))
      refine ⟨rfl, yesT rfl ?_⟩
      refine ⟨_, rfl, x.p, _, _, _, _, rfl, up R.ins, T.cl_Wood, T.a_frames, wf_frames, _, rfl, x.fa, _, rfl, get_fr (up R.frs) e, x.fo r, _, _, _, _, rfl, up (R.fr r f e), T.cl_Frame, T.a_slots, ff_slots, x.so r, _, rfl, .inl (SqL.of (up (R.sl r f e))), fun a na => ?_⟩
      refine ⟨_, (upd_ne (ne_of_none N.ll.1 na)).trans N.ll.1, szl ?_, cs ++ [(a, f.slots)], ?_⟩
      · rw [List.length_map]
        have := congrArg List.length N.vals
        rw [List.length_map, List.length_map, List.length_take] at this
        omega
      · have := ll_step (z := f.slots) N na
        rw [take_snoc hr', List.map_append]
        simpa [sl_of e] using this
    · rintro H' ⟨cs, N⟩
      rw [List.length_map, List.take_length] at N
      refine ky y hk H' D cs ?_
      have : vl W.frames y = l.map (sl W.frames) := by unfold vl; rw [el]
      rw [this]
      exact N.back eq1
theorem perm_sorted {a b : List Int} (h : a.Perm b) (ha : a.Pairwise (· ≤ ·)) (hb : b.Pairwise (· < ·)) : a = b := List.Perm.eq_of_pairwise (fun x y _ _ h1 h2 => Int.le_antisymm h1 h2) ha (hb.imp fun h => Int.le_of_lt h) h
theorem ok_Wood_places (T : Txt K mg) : FnOk P w K mg base CX0 1 (aW K "places") (fdOf K (aW K "places")) ["self"] (spPlaces K) := by
  refine T.F_Wood_places.ok sc_Wood_places (fun vs H Q E h => ?_) (fun cdv A outer s H vs Q E hr h => ?_)
  · obtain ⟨_, _, _, rfl, _⟩ := h; rfl
  · obtain ⟨A, x, W, rfl, ⟨s0, R, F⟩, hm, k⟩ := h
    refine ⟨_, PSs.nox (pss_one (ps_ret (pe_callB (call_sortedDA rfl) rfl T.n_sorted (by decide +kernel) (pa_cons (pe_fldK K rfl (pv 0) rfl) pa_nil)))), ?_⟩
    refine ⟨_, rfl, x.p, _, _, _, _, rfl, s0 _ _ R.ins, T.cl_Wood, T.a_marks, wf_marks, x.ma, _, ks W.marks, rfl, .inl (s0 _ _ R.mks), ?_, by simpa [ks] using hm, fun ys p hp hs np => ?_⟩
    · unfold mkV ks; rw [List.map_map, List.map_map]; rfl
    · rw [perm_sorted hp hs F.ms]
      exact k p np
theorem dp_ints {H : Hp} {p : Addr} {l : List Int} (h : H p = some (.lst (l.map V.int))) : Dp K H (.ref p) (.list (l.map PyData.int)) := by
  refine .lst (SqL.of h) ?_
  clear h
  induction l with
  | nil => exact .nil
  | cons a l ih => exact .cons (.int a) ih
theorem lay_ints (l : List Int) : PyData.canLayAll0 (l.map PyData.int) = true ∧ PyData.depthAll (l.map PyData.int) ≤ 1 := by
  induction l with
  | nil => exact ⟨by simp [PyData.canLayAll0], by simp [PyData.depthAll]⟩
  | cons a l ih => exact ⟨by simp [PyData.canLayAll0, PyData.canLay0, ih.1], by simp only [List.map_cons, PyData.depthAll, PyData.depth]; omega⟩
theorem shaped_ints (l : List Int) : SeqAt.shaped (.list (l.map PyData.int)) = true := by
  have := lay_ints l
  have e1 : (PyData.list (l.map PyData.int)).canLay0 = true := by simp only [PyData.canLay0]; exact this.1
  have e2 : (PyData.list (l.map PyData.int)).depth ≤ 64 := by
    have z : (PyData.list (l.map PyData.int)).depth = PyData.depthAll (l.map PyData.int) + 1 := by simp only [PyData.depth]
    omega
  exact Bool.and_eq_true_iff.mpr ⟨e1, decide_eq_true e2⟩
theorem eqv_ints_nil (l : List Int) : PyData.eqv (.list (l.map PyData.int)) (.list []) = l.isEmpty := by
  cases l <;> rfl
theorem taken {W : Wd} {h d : Int} {l : List Int} (d0 : 0 ≤ d) (dl : d < (l.length : Int)) : cutV (l.map V.int) none (some (d + 1)) = (l.take (d.toNat + 1)).map V.int := by
  unfold cutV
  rw [List.length_map]
  have e1 : HT.sIx l.length 0 none = 0 := HT.sIx_none _ _
  have e2 : HT.sIx l.length l.length (some (d + 1)) = d.toNat + 1 := by
    have : d + 1 = ((d.toNat + 1 : Nat) : Int) := by omega
    rw [this, HT.sIx_nat]; omega
  rw [e1, e2]
  simp [List.map_take]
theorem atI_int {l : List Int} {i : Nat} (h : i < l.length) : atI (l.map V.int) (i : Int) = some (V.int (l.getD i 0)) := by
  refine atI_nat ?_
  rw [List.getElem?_map, List.getD_eq_getElem?_getD, List.getElem?_eq_getElem h]; rfl
theorem ok_Wood_way (T : Txt K mg) : FnOk P w K mg base (L2.CX P w) 2 (aW K "way") (fdOf K (aW K "way")) ["self", "hand", "depth"] (spWay K) := by
  refine T.F_Wood_way.ok (CX := L2.CX P w) sc_Wood_way (fun vs H Q E h => ?_) (fun cdv A outer s H vs Q E hr h => ?_)
  · obtain ⟨_, _, _, _, _, rfl, _⟩ := h; rfl
  · obtain ⟨A, x, W, h, d, rfl, ⟨s0, R, F⟩, k⟩ := h
    refine ⟨_, (pss_cons (ps_expr (pe_meth (pv 0) T.cl_Wood T.m_need_hand (ok_Wood_need_hand T) (hr.mono (by decide)) T.b_Wood_need_hand .nil (passes_call (takes_of rfl rfl rfl rfl) (fun _ _ _ _ h => h)) (pa_cons (pv 1) pa_nil))) (pss_cons (ps_set (i := 3) sc_Wood_way.nd rfl (Or.inr rfl) (pe_meth (pv 0) T.cl_Wood T.m_path (ok_Wood_path T) (hr.mono (by decide)) T.b_Wood_path .nil pass0 (pa_cons (pe_ix (ix_listK K rfl) (pe_fldK K rfl (pv 0) rfl) (pv 1) (fun _ _ => rfl)) pa_nil))) (pss_cons (ps_if (pt_not (pt_chain op_le op_lt pe_int (pv 2) (pe_callB (call_lenK K rfl) rfl T.n_len PySem.boot_len (pa_cons (pv 3) pa_nil)))) (pss_one (ps_raise rfl (takes_of rfl rfl rfl rfl) (pmk_own PySem.F.excBase_ValueError T.x_NoCall.1 T.g_NoCall T.x_NoCall.2.1 (raises_own T.x_NoCall.2.2.1 T.x_NoCall.2.2.2) rfl))) pss_nil) (pss_cons (ps_set (i := 3) sc_Wood_way.nd rfl (Or.inr rfl) (pe_slice (sl_listK K rfl) (pv 3) po_none (po_some (pe_op op_add (pv 2) pe_int)))) (pss_cons (ps_setLc (i := 4) (own := [("at", 5)]) (g := gName 5) rfl sc_Wood_way.nd rfl rfl (sw_true rfl rfl rfl (by decide +kernel)) (pi_range1 rfl T.n_range (pa_cons (pe_op op_add (pv 2) pe_int) pa_nil)) (blkOk_by (own := [("at", 5)]) (N := ["self", "hand", "depth", "path", "shared", "at"]) (sc := (defScope s_Wood_way)) (by decide +kernel)) (fun _ _ _ _ _ => pg_name (i := 5) sc_Wood_way.nd rfl (Or.inl rfl)) (fun _ _ _ _ _ => by exact (pts_one (pt_cmpR op_gt (pe_fldK K rfl (pe_dget (hu_of hr) (pe_fldK K rfl (pv 0) rfl) (pe_ix (ix_listK K rfl) (pv 3) (pv 5) (fun _ _ => rfl)) (fun _ _ => rfl)) rfl) pe_int (nomark _)))) (fun _ _ _ _ _ => by exact (pv 5))) (pss_one (ps_ret (pe_tup (pa_cons (pv 3) (pa_cons (pe_ifExp (pt_cmpR (op_neDK K rfl hr.units) (pv 4) (pe_lst pa_nil) (nomark _)) (pe_ix (ix_listK K rfl) (pv 4) pe_int (fun _ _ => rfl)) pe_non) pa_nil)))))))))), ?_⟩
    unfold doWay at k
    have hp := s0 _ _ R.ins
    refine ⟨_, rfl, x.p, _, _, rfl, hp, wf_no (by decide +kernel), _, rfl, A, x, W, h, rfl, s0, R, fun hk => ?_, fun hk => ?_⟩
    · rw [if_neg (fun z => z hk)] at k
      have hl := F.tpath h
      generalize el : path W.frames (top W h) = l at hl k
      have hlen : l.length ≤ 40 := Nat.le_trans hl.len F.len
      refine ⟨_, rfl, x.p, _, _, rfl, hp, wf_no (by decide +kernel), _, rfl, x.p, _, _, _, _, rfl, hp, T.cl_Wood, T.a_tops, wf_tops, _, rfl, x.ta, _, _, _, rfl, rfl, SqL.of (s0 _ _ R.tps), atI_tops hk, A, x, W, top W h, l, rfl, s0, R, hl, by omega, fun q nq => ?_⟩
      have e1 := same_new nq (.lst (l.map V.int))
      refine ⟨_, rfl, _, _, rfl, rfl, _, rfl, ?_⟩
      by_cases d0 : 0 ≤ d
      · rw [decide_eq_true d0]
        refine iteT ⟨_, rfl, q, _, rfl, .inl (SqL.of upd_same), _, _, rfl, rfl, _, rfl, ?_⟩
        rw [List.length_map]
        by_cases dl : d < (l.length : Int)
        · rw [if_neg (fun z => z ⟨d0, dl⟩)] at k
          rw [decide_eq_true dl]
          refine iteF ⟨_, rfl, _, rfl, _, _, rfl, rfl, _, rfl, q, _, rfl, SqL.of upd_same, fun q2 nq2 => ?_⟩
          rw [taken (W := W) (h := h) d0 dl]
          generalize eq0 : l.take (d.toNat + 1) = qs at k
          have hql : qs.length = d.toNat + 1 := by rw [← eq0, List.length_take]; omega
          have hqin : ∀ r ∈ qs, ∃ f, lk W.frames r = some f := fun r hr => hl.in r (by rw [← eq0] at hr; exact List.mem_of_mem_take hr)
          have e2 := e1.trans (same_new nq2 (.lst (qs.map V.int)))
          refine ⟨_, rfl, _, _, rfl, rfl, d + 1, rfl, by omega, by omega, fun D nD => ?_⟩
          refine lc_range (lo := 0) (n := (d + 1).toNat) (fun i H' => H' = upd (upd (upd H q (.lst (l.map V.int))) q2 (.lst (qs.map V.int))) D (.lst (((List.range i).filter fun j => decide (1 < SW.nd W.frames (qs.getD j 0))).map fun (j : Nat) => V.int (j : Int)))) rfl ?_ ?_
          · rintro i H' hi rfl
            have e3 := e2.trans (same_new nD (.lst (((List.range i).filter fun j => decide (1 < SW.nd W.frames (qs.getD j 0))).map fun (j : Nat) => V.int (j : Int))))
            have up : ∀ {b : Addr} {o : HO}, A b = some o → upd (upd (upd H q (.lst (l.map V.int))) q2 (.lst (qs.map V.int))) D (.lst (((List.range i).filter fun j => decide (1 < SW.nd W.frames (qs.getD j 0))).map fun (j : Nat) => V.int (j : Int))) b = some o := fun {b o} e => e3 _ _ (s0 _ _ e)
            have hi2 : i < qs.length := by omega
            obtain ⟨f, e⟩ := hqin (qs.getD i 0) (by
              rw [List.getD_eq_getElem?_getD, List.getElem?_eq_getElem hi2]; exact List.getElem_mem hi2)
            have hix : atI (qs.map V.int) (0 + (i : Int)) = some (V.int (qs.getD i 0)) := by
              rw [Int.zero_add]; exact atI_int hi2
            refine ⟨rfl, _, rfl, x.p, _, _, _, _, rfl, up R.ins, T.cl_Wood, T.a_frames, wf_frames, _, rfl, _, rfl, q2, _, _, _, rfl, rfl, SqL.of ((upd_ne (ne_of_none upd_same nD)).trans upd_same), hix, x.fa, _, rfl, get_fr (up R.frs) e, x.fo (qs.getD i 0), _, _, _, _, rfl, up (R.fr _ f e), T.cl_Frame, T.a_needs, ff_needs, _, _, rfl, rfl, _, rfl, ?_⟩
            have len : (((List.range i).filter fun j => decide (1 < SW.nd W.frames (qs.getD j 0))).map fun (j : Nat) => V.int (j : Int)).length ≤ 1000 := by
              rw [List.length_map]
              refine Nat.le_trans (List.length_filter_le _ _) ?_
              rw [List.length_range]; omega
            rw [List.range_succ, List.filter_append, List.map_append]
            have en : SW.nd W.frames (qs.getD i 0) = f.needs := nd_of e
            by_cases g : 1 < f.needs
            · rw [decide_eq_true g]
              refine iteT ⟨_, rfl, _, upd_same, szl (by omega), ?_⟩
              have ef : ([i].filter fun j => decide (1 < SW.nd W.frames (qs.getD j 0))) = [i] := by
                rw [List.filter_cons_of_pos (by rw [en]; exact decide_eq_true g)]; rfl
              rw [upd_upd, Int.zero_add, ef]; rfl
            · rw [decide_eq_false g]
              refine iteF ?_
              have ef : ([i].filter fun j => decide (1 < SW.nd W.frames (qs.getD j 0))) = [] := by
                rw [List.filter_cons_of_neg (by rw [en]; simpa using g)]; rfl
              rw [ef, List.map_nil, List.append_nil]
          · rintro H' rfl
            have en : (d + 1).toNat = qs.length := by omega
            rw [en]
            have esh : ((List.range qs.length).filter fun j => decide (1 < SW.nd W.frames (qs.getD j 0))) = sh W.frames qs := rfl
            rw [esh]
            have hD : ((sh W.frames qs).map fun (j : Nat) => V.int (j : Int)) = (((sh W.frames qs).map fun (j : Nat) => (j : Int))).map V.int := by rw [List.map_map]; rfl
            rw [hD]
            have nq2D : q2 ≠ D := ne_of_none upd_same nD
            refine ⟨_, rfl, _, rfl, Nat.zero_le _, fun z nz => ?_⟩
            have hDz : upd (upd (upd (upd H q (.lst (l.map V.int))) q2 (.lst (qs.map V.int))) D (.lst ((((sh W.frames qs).map fun (j : Nat) => (j : Int))).map V.int))) z (.lst []) D = some (.lst ((((sh W.frames qs).map fun (j : Nat) => (j : Int))).map V.int)) := (upd_ne (ne_of_none upd_same nz)).trans upd_same
            refine ⟨_, _, dp_ints hDz, .lst (SqL.of upd_same) .nil, shaped_ints _, by decide +kernel, _, rfl, ?_⟩
            rw [eqv_ints_nil]
            have e4 := (e2.trans (same_new nD (.lst ((((sh W.frames qs).map fun (j : Nat) => (j : Int))).map V.int)))).trans (same_new nz (.lst []))
            have hq2 : upd (upd (upd (upd H q (.lst (l.map V.int))) q2 (.lst (qs.map V.int))) D (.lst ((((sh W.frames qs).map fun (j : Nat) => (j : Int))).map V.int))) z (.lst []) q2 = some (.lst (qs.map V.int)) := by
              rw [upd_ne (ne_of_none ((upd_ne nq2D).trans upd_same) nz), upd_ne nq2D, upd_same]
            cases esh2 : sh W.frames qs with
            | nil =>
              rw [esh2] at k e4 hq2 hDz
              refine iteF ⟨by show 2 ≤ sizeLine; exact sz (by omega), fun t nt => ?_⟩
              exact k _ t q2 (e4.trans (same_new nt _)) (e1.free nq2) upd_same ((upd_ne (ne_of_none hq2 nt)).trans hq2)
            | cons a rest =>
              rw [esh2] at k e4 hq2 hDz
              refine iteT ⟨_, rfl, D, _, 0, V.int (a : Int), rfl, rfl, SqL.of hDz, atI_nat (j := 0) rfl, by show 2 ≤ sizeLine; exact sz (by omega), fun t nt => ?_⟩
              exact k _ t q2 (e4.trans (same_new nt _)) (e1.free nq2) upd_same ((upd_ne (ne_of_none hq2 nt)).trans hq2)
        · rw [if_pos (fun z => dl z.2)] at k
          rw [decide_eq_false dl]
          exact iteT (k _ e1)
      · rw [if_pos (fun z => d0 z.1)] at k
        rw [decide_eq_false d0]
        exact iteF ⟨_, rfl, iteT (k _ e1)⟩
    · rw [if_pos hk] at k
      exact k _ (Same.refl _)
theorem ok_Wood_price (T : Txt K mg) : FnOk P w K mg base (L2.CX P w) 3 (aW K "price") (fdOf K (aW K "price")) ["self", "hand", "depth"] (spPrice K) := by
  refine T.F_Wood_price.ok (CX := L2.CX P w) sc_Wood_price (fun vs H Q E h => ?_) (fun cdv A outer s H vs Q E hr h => ?_)
  · obtain ⟨_, _, _, _, _, rfl, _⟩ := h; rfl
  · obtain ⟨A, x, W, h, d, rfl, ⟨s0, R, F⟩, k⟩ := h
    refine ⟨_, (pss_cons (ps_set (i := 3) sc_Wood_price.nd rfl (Or.inl rfl) (pe_ix (ix_tupK K rfl) (pe_meth (pv 0) T.cl_Wood T.m_way (ok_Wood_way T) (hr.mono (by decide)) T.b_Wood_way .nil (passes_call (takes_of rfl rfl rfl rfl) (fun _ _ _ _ h => h)) (pa_cons (pv 1) (pa_cons (pv 2) pa_nil))) pe_int (fun _ _ => rfl))) (pss_one (ps_ret (pe_ifExp (pt_cmpR op_isN1 (pv 3) pe_non (nomark _)) pe_int (pe_op op_add (pe_op op_sub (pv 2) (pv 3)) pe_int))))), ?_⟩
    have hp := s0 _ _ R.ins
    unfold doPrice at k
    refine ⟨_, rfl, x.p, _, _, rfl, hp, wf_no (by decide +kernel), _, rfl, _, rfl, A, x, W, h, d, rfl, ⟨s0, R, F⟩, ?_⟩
    cases e : doWay W h d with
    | error er => rw [e] at k; exact k
    | ok r =>
      obtain ⟨q, o⟩ := r
      rw [e] at k
      intro H' t l e1 _ ht hl
      refine ⟨t, _, 1, oN o, rfl, rfl, SqT.of ht, atI_nat (j := 1) rfl, _, rfl, rfl, ?_⟩
      cases o with
      | none => exact ⟨_, rfl, iteT (k H' e1)⟩
      | some i => exact ⟨_, rfl, iteF ⟨_, rfl, _, rfl, _, _, rfl, rfl, _, _, rfl, rfl, k H' e1⟩⟩
end
end Sk
end
section
/-! SwM4: put, and its copies. -/
namespace Sk
open PySem PySem.Spec PyProof.Rows L2 SW
/-- over a list backwards -/
theorem for_rev {K : PySem.W.Frag} {a : Addr} {xs : List V} {g : TG} {tb : TS} {D : Ends} {σ : L2.St} {H : Hp} (Pv : Nat → L2.St → Hp → Prop) (h0 : Pv 0 σ H) (hl : ∀ i σ H, i < xs.length → Pv i σ H → SqL K H a xs)
    (hs : ∀ i x σ H, xs.reverse[i]? = some x → Pv i σ H → g x σ H fun σ2 H2 => tb { D with nx := Pv (i + 1), ct := Pv (i + 1), bk := D.nx } σ2 H2) (hd : ∀ σ H, Pv xs.length σ H → D.nx σ H) :
    ∃ W : Nat → Nat → L2.St → Hp → Prop, (∃ m, W 0 m σ H) ∧ ∀ i m σ H, W i m σ H →
      ((Itv K a xs.length).stop i H ∧ D.nx σ H) ∨ ((Itv K a xs.length).go i H ∧ ∃ N : L2.St → Hp → Prop, (∀ σ' H', N σ' H' → ∃ m', m' < m ∧ W (i + 1) m' σ' H') ∧ ∀ x H', (Itv K a xs.length).yld i H x H' → g x σ H' fun σ2 H2 => tb { D with nx := N, ct := N, bk := D.nx } σ2 H2) := by
  refine ⟨fun i m σ H => m = xs.length - i ∧ i ≤ xs.length ∧ Pv i σ H, ⟨_, rfl, Nat.zero_le _, h0⟩, ?_⟩
  rintro i m σ H ⟨rfl, hi, p⟩
  by_cases hlt : i < xs.length
  · have q := hl i σ H hlt p
    have hx : xs[xs.length - 1 - i]? = some (xs[xs.length - 1 - i]'(by omega)) := List.getElem?_eq_getElem (by omega)
    refine .inr ⟨⟨hlt, xs, _, q, hx⟩, Pv (i + 1), fun σ' H' p' => ⟨xs.length - (i + 1), by omega, rfl, hlt, p'⟩, fun x H' y => ?_⟩
    obtain ⟨e, y⟩ := y
    subst e
    exact hs i x σ _ (by rw [List.getElem?_reverse hlt]; exact y xs q) p
  · have e : i = xs.length := by omega
    subst e
    exact .inl ⟨Nat.le_refl _, hd σ H p⟩
theorem atI_back {l : List Int} (h : 0 < l.length) : atI (l.map V.int) (-1) = some (V.int (l.getD (l.length - 1) 0)) := by
  unfold atI ixN
  rw [List.length_map, if_neg (by decide), if_pos (by omega)]
  show (l.map V.int)[(-1 + (l.length : Int)).toNat]? = _
  have : (-1 + (l.length : Int)).toNat = l.length - 1 := by omega
  rw [this, List.getElem?_map, List.getD_eq_getElem?_getD, List.getElem?_eq_getElem (by omega)]; rfl
theorem dropped {l : List Int} {i : Nat} (h : i ≤ l.length) : cutV (l.map V.int) (some (i : Int)) none = (l.drop i).map V.int := by
  unfold cutV
  rw [List.length_map]
  have e1 : HT.sIx l.length l.length none = l.length := HT.sIx_none _ _
  have e2 : HT.sIx l.length 0 (some (i : Int)) = i := by rw [HT.sIx_nat]; omega
  rw [e1, e2, List.take_of_length_le (by rw [List.length_drop, List.length_map]; exact Nat.le_refl _), List.map_drop]
section
variable (K : PySem.W.Frag)
def spCopied : Sp := fun vs H Q _ => ∃ (A : Hp) (x : Ad) (W : Wd) (h : Int) (s : Addr) (q : List Int) (i d : Nat), vs = [.ref x.p, .int h, .ref s, .int (i : Int)] ∧ At K A H x W ∧ hOk W h ∧ H s = some (.lst (q.map V.int)) ∧ A s = none ∧
  d < (path W.frames (top W h)).length ∧ (path W.frames (top W h)).take (d + 1) = q ∧ (sh W.frames q).head? = some i ∧ (W.frames.length : Int) + ((d : Int) - i + 1) ≤ W.rooms ∧
  ∀ A' x' H', x'.p = x.p → WA K A' x' (copied W h q i).2 → Stp A H A' H' → Q (.int (copied W h q i).1) H'
def spPut : Sp := fun vs H Q E => ∃ (A : Hp) (x : Ad) (W : Wd) (h d s v : Int), vs = [.ref x.p, .int h, .int d, .int s, .int v] ∧ At K A H x W ∧
  match doPut W h d s v with
  | .error e => Ref K H E e
  | .ok (n, W') => Then K A H x W' (Q (.int n))
end
theorem stp_keep {A H A' H' : Hp} (S : Stp A H A' H') (hs : Sub A H) {a : Addr} {o : HO} (h : H a = some o) (n : A a = none) : H' a = some o ∧ A' a = none := by
  refine ⟨S.oth a o h n, ?_⟩
  cases e : A' a with
  | none => rfl
  | some u =>
    have := S.new a n (by rw [e]; simp)
    rw [h] at this; cases this
theorem Stp.free0' {A H A' H' : Hp} (_ : Stp A H A' H') {a : Addr} (h : H a = none) (hs : Sub A H) : A a = none := by
  cases e : A a with
  | none => rfl
  | some u => rw [hs a u e] at h; cases h
section
variable {P : Program} {w : World} {K : PySem.W.Frag} {mg : Str → Option Value} {base : Heap}
theorem ok_Wood_copied (T : Txt K mg) : FnOk P w K mg base CX0 3 (aW K "copied") (fdOf K (aW K "copied")) ["self", "hand", "path", "first"] (spCopied K) := by
  refine T.F_Wood_copied.ok sc_Wood_copied (fun vs H Q E h => ?_) (fun cdv A outer s H vs Q E hr h => ?_)
  · obtain ⟨_, _, _, _, _, _, _, _, rfl, _⟩ := h; rfl
  · obtain ⟨A, x, W, h, s1, q, i, d, rfl, ⟨s0, R, F⟩, hk, hs1, ns1, hd, eq0, hsh, room, k⟩ := h
    refine ⟨_, PSs.nox (pss_cons (ps_set (i := 4) sc_Wood_copied.nd rfl (Or.inl rfl) (pe_fldK K rfl (pe_dget (hu_of hr) (pe_fldK K rfl (pv 0) rfl) (pe_ix (ix_listK K rfl) (pv 2) (pe_un un_neg pe_int) (fun _ _ => rfl)) (fun _ _ => rfl)) rfl)) (pss_cons (ps_expr (pe_meth (pv 0) T.cl_Wood T.m_want (ok_Wood_want T) (hr.mono (by decide)) T.b_Wood_want .nil pass0 (pa_cons (pv 4) pa_nil))) (pss_cons (ps_set (i := 5) sc_Wood_copied.nd rfl (Or.inl rfl) (pe_lst pa_nil)) (pss_cons (ps_for PassesOwn.never rfl (pi_reversed rfl T.n_reversed (pa_cons (pe_slice (sl_listK K rfl) (pv 2) (po_some (pv 3)) po_none) pa_nil)) (pg_name (i := 6) sc_Wood_copied.nd rfl (Or.inl rfl)) (pss_cons (ps_set (i := 7) sc_Wood_copied.nd rfl (Or.inl rfl) (pe_meth0 (pv 0) T.cl_Wood T.m_new_room (ok_Wood_new_room T) (hr.mono (by decide)) T.b_Wood_new_room .nil pass0)) (pss_cons (ps_dput (hu_of hr) (pe_fldK K rfl (pv 0) rfl) (pv 7) (pe_make T.mk_Frame (ok_Frame_init T) (hr.mono (by decide)) rfl T.g_Frame T.b_Frame_init .nil pass0 (pa_cons (pv 4) (pa_cons (pe_fldK K rfl (pe_dget (hu_of hr) (pe_fldK K rfl (pv 0) rfl) (pv 6) (fun _ _ => rfl)) rfl) pa_nil))) rfl) (pss_cons (ps_expr (pe_bm PySem.F.plainAttrs_list PySem.F.slot_list_append PySem.F.type_list_append mt_append (pv 5) (pa_cons (pv 7) pa_nil))) (pss_one (ps_set (i := 4) sc_Wood_copied.nd rfl (Or.inl rfl) (pv 7))))))) (pss_cons (ps_fld (pv 0) (pe_op op_add (pe_fldK K rfl (pv 0) rfl) (pe_callB (call_lenK K rfl) rfl T.n_len PySem.boot_len (pa_cons (pv 5) pa_nil))) rfl) (pss_cons (ps_expr (pe_meth (pv 0) T.cl_Wood T.m_leave (ok_Wood_leave T) (hr.mono (by decide)) T.b_Wood_leave .nil pass0 (pa_cons (pe_ix (ix_listK K rfl) (pv 2) (pv 3) (fun _ _ => rfl)) pa_nil))) (pss_cons (ps_if (pt_cmpR op_eq (pv 3) pe_int (nomark _)) (pss_one (ps_asg (pv 4) (pg_sub (pe_fldK K rfl (pv 0) rfl) (pv 1) set_list))) (pss_one (ps_fld (pe_dget (hu_of hr) (pe_fldK K rfl (pv 0) rfl) (pe_ix (ix_listK K rfl) (pv 2) (pe_op op_sub (pv 3) pe_int) (fun _ _ => rfl)) (fun _ _ => rfl)) (pv 4) rfl))) (pss_one (ps_ret (pe_ix (ix_listK K rfl) (pv 5) pe_int (fun _ _ => rfl))))))))))), ?_⟩
    have hp := s0 _ _ R.ins
    obtain ⟨b, ⟨ebl, ⟨fd, hfd, hfb⟩, hbin, cop, croom, cold, ⟨gi, hgi, ngi⟩, cup⟩⟩ := copyF F rfl hd eq0 hsh room
    obtain ⟨si, _, _⟩ := sh_some hsh
    have hq0 : 0 < q.length := by omega
    have pl : (path W.frames (top W h)).length ≤ 40 := Nat.le_trans (F.tpath h).len F.len
    have hq40 : q.length ≤ 40 := by rw [← eq0, List.length_take]; omega
    have hfr := s0 _ _ (R.fr _ fd hfd)
    -- below, want
    refine ⟨_, rfl, x.p, _, _, _, _, rfl, hp, T.cl_Wood, T.a_frames, wf_frames, _, rfl, _, rfl, s1, _, _, _, rfl, rfl, SqL.of hs1, atI_back hq0, x.fa, _, rfl, get_fr (s0 _ _ R.frs) hfd, x.fo _, _, _, _, _, rfl, hfr, T.cl_Frame, T.a_below, ff_below, ?_⟩
    rw [hfb]
    refine ⟨_, rfl, x.p, _, _, rfl, hp, wf_no (by decide +kernel), _, rfl, A, x, W, b, rfl, s0, R, hbin, fun A1 H1 R1 S1 => ?_⟩
    obtain ⟨hs1a, ns1a⟩ := stp_keep S1 s0 hs1 ns1
    refine ⟨Nat.zero_le _, fun lr nlr => ?_⟩
    have S2 : Stp A H A1 (upd H1 lr (.lst [])) := S1.gar nlr _
    have nlrA := S1.free nlr
    have hs1b : upd H1 lr (.lst []) s1 = some (.lst (q.map V.int)) := (upd_ne (ne_of_none hs1a nlr)).trans hs1a
    refine ⟨_, rfl, _, rfl, _, rfl, s1, _, rfl, SqL.of hs1b, fun s2 ns2 => ?_⟩
    rw [show cutV (q.map V.int) (some (i : Int)) none = (q.drop i).map V.int from dropped (by omega)]
    have S3 : Stp A H A1 (upd (upd H1 lr (.lst [])) s2 (.lst ((q.drop i).map V.int))) := S2.gar ns2 _
    have ns2A := S2.free ns2
    have n12 : lr ≠ s2 := ne_of_none upd_same ns2
    refine ⟨s2, _, rfl, SqL.of upd_same, ?_⟩
    refine for_rev (K := K) (a := s2) (xs := (q.drop i).map V.int) (fun j σ H' => ∃ (A' : Hp) (x' : Ad) (v6 v7 : Option V), σ = [some (.ref x.p), some (.int h), some (.ref s1), some (.int (i : Int)), some (oV (copyL W.rooms (wantF W.frames b) b ((q.drop i).reverse.take j)).2.1), some (.ref lr), v6, v7] ∧ x'.p = x.p ∧
      WA K A' x' { W with frames := (copyL W.rooms (wantF W.frames b) b ((q.drop i).reverse.take j)).1 } ∧ Stp A H A' H' ∧ H' lr = some (.lst ((copyL W.rooms (wantF W.frames b) b ((q.drop i).reverse.take j)).2.2.map V.int)) ∧ A' lr = none ∧ H' s1 = some (.lst (q.map V.int)) ∧ A' s1 = none ∧ H' s2 = some (.lst ((q.drop i).map V.int)) ∧ A' s2 = none)
      ⟨A1, x, none, none, rfl, rfl, R1, S3, (upd_ne n12).trans upd_same, nlrA, (upd_ne (ne_of_none hs1b ns2)).trans hs1b, ns1a, upd_same, ns2A⟩ (fun j σ H' _ ⟨A', x', v6, v7, _, _, _, _, _, _, _, _, h2, _⟩ => SqL.of h2) ?_ ?_
    · rintro j v σ H' hj ⟨A', x', v6, v7, rfl, hxp, R', S', hlr, nlr', hs', ns', h2, n2⟩
      obtain ⟨o, ho, rfl⟩ : ∃ o, (q.drop i).reverse[j]? = some o ∧ v = V.int o := by
        rw [← List.map_reverse, List.getElem?_map] at hj
        cases e : (q.drop i).reverse[j]? with
        | none => rw [e] at hj; cases hj
        | some r => rw [e] at hj; exact ⟨r, rfl, (Option.some.inj hj).symm⟩
      have jl : j < (q.drop i).reverse.length := (List.getElem?_eq_some_iff.mp ho).1
      have esn : (q.drop i).reverse.take (j + 1) = (q.drop i).reverse.take j ++ [o] := take_snoc ho
      have ecs := copyL_snoc W.rooms o ((q.drop i).reverse.take j) (wantF W.frames b) b
      rw [← esn] at ecs
      have C := cop j
      have rm := croom j jl
      obtain ⟨fo, hfo⟩ := cold j o ho
      have clen := C.len
      rw [List.length_take] at clen
      generalize copyL W.rooms (wantF W.frames b) b ((q.drop i).reverse.take j) = t at R' hlr ecs C rm hfo clen
      obtain ⟨fs, bb, rs⟩ := t
      simp only at R' hlr ecs C rm hfo clen
      have rng : ∀ r ∈ ks fs, 1 ≤ r ∧ r ≤ W.rooms := fun r hr => by
        have := C.keys
        simp only at this
        rw [this, ks_want] at hr
        rcases List.mem_append.mp hr with z | z
        · exact F.rng r z
        · exact C.rng r z
      have nin := newRoom_in C.wf.nd rng rm
      obtain ⟨_, nn⟩ := mem_freeR.mp nin
      have fl : fs.length ≤ 40 := by have := F.r40; omega
      have hp' := S'.own _ _ R'.ins
      rw [hxp] at hp'
      -- room = self.new_room()
      refine ⟨_, rfl, x.p, _, _, rfl, hp', wf_no (by decide +kernel), A', x', { W with frames := fs }, by rw [hxp]; rfl, S'.own, R', F.r40, nin, fun H2 e2 => ?_⟩
      generalize newRoom W.rooms fs = r at nn ecs nin
      have S4 := S'.same e2
      have hp2 := S4.own _ _ R'.ins
      rw [hxp] at hp2
      have hfr2 := S4.own _ _ (R'.fr o fo hfo)
      -- Frame(below, self.frames[old].slots)
      refine ⟨_, rfl, _, rfl, x.p, _, _, _, _, rfl, hp2, T.cl_Wood, T.a_frames, wf_frames, _, rfl, x'.fa, _, rfl, get_fr (S4.own _ _ R'.frs) hfo, x'.fo o, _, _, _, _, rfl, hfr2, T.cl_Frame, T.a_slots, ff_slots, fun y dx ny nd ne => ?_⟩
      have hsl : SqL K (upd (upd H2 dx (.own y)) y (.ins (fK K) dx [])) (x'.so o) (fo.slots.map V.int) := by
        have := S4.own _ _ (R'.sl o fo hfo)
        exact SqL.of ((upd_ne (ne_of_none this ny)).trans ((upd_ne (ne_of_none this nd)).trans this))
      refine ⟨y, dx, x'.so o, bb, fo.slots, rfl, upd_same, hsl, fun l nl => ⟨rfl, ?_⟩⟩
      have nly : y ≠ l := fun z => by rw [← z, upd_same] at nl; cases nl
      have nld : dx ≠ l := fun z => by rw [← z, upd_ne ne, upd_same] at nl; cases nl
      have nl1 : H2 l = none := by rw [upd_ne nly.symm, upd_ne nld.symm] at nl; exact nl
      rw [upd_back nly]
      have S5 : Stp A H A' (upd H2 dx (.own y)) := S4.gar nd _
      have S6 := S5.new' (a := l) (by rw [upd_ne nld.symm]; exact nl1) (.lst (fo.slots.map V.int))
      have S7 := S6.new' (a := y) (by rw [upd_ne nly, upd_ne ne.symm]; exact ny) (.ins (fK K) dx (fF ⟨bb, fo.slots, 1⟩ l))
      have nyA := S4.free ny
      have nlA := S4.free nl1
      have R4 := R'.newFr nn nyA nlA nly.symm ⟨bb, fo.slots, 1⟩ (d := dx)
      have old : ∀ {c : Addr} {u : HO}, A' c = some u → upd (upd A' l (.lst (fo.slots.map V.int))) y (.ins (fK K) dx (fF ⟨bb, fo.slots, 1⟩ l)) c = some u := fun {c u} e => by
        rw [upd_ne (ne_of_none e nyA), upd_ne (ne_of_none e nlA)]; exact e
      have oldH : ∀ {c : Addr} {u : HO}, H2 c = some u → upd (upd (upd H2 dx (.own y)) l (.lst (fo.slots.map V.int))) y (.ins (fK K) dx (fF ⟨bb, fo.slots, 1⟩ l)) c = some u := fun {c u} e => by
        rw [upd_ne (ne_of_none e ny), upd_ne (ne_of_none e nl1), upd_ne (ne_of_none e nd)]; exact e
      have hp4 := S7.own _ _ (old R'.ins)
      rw [hxp] at hp4
      refine ⟨_, rfl, x.p, _, _, _, _, rfl, hp4, T.cl_Wood, T.a_frames, wf_frames, _, rfl, x'.fa, _, rfl, DPut.k (k := Sum.inl r) (S7.own _ _ (old R'.frs)) (szl (by rw [frV_len]; show fs.length ≤ 100000; omega)), ?_⟩
      rw [show putK (frV x'.fo fs) (Sum.inl r) (V.ref y) = _ from putK_fr y ⟨bb, fo.slots, 1⟩ nn]
      have S8 := S7.upd (old R'.frs) (.dK (frV (fun k => if k = r then y else x'.fo k) (pt fs r ⟨bb, fo.slots, 1⟩)))
      have keep8 : ∀ {c : Addr} {u : HO}, H' c = some u → A' c = none → upd (upd (upd (upd H2 dx (.own y)) l (.lst (fo.slots.map V.int))) y (.ins (fK K) dx (fF ⟨bb, fo.slots, 1⟩ l))) x'.fa (.dK (frV (fun k => if k = r then y else x'.fo k) (pt fs r ⟨bb, fo.slots, 1⟩))) c = some u := fun {c u} e n => by
        rw [upd_ne (fun z => by rw [z, R'.frs] at n; cases n)]
        exact oldH (e2 _ _ e)
      have freeA : ∀ {c : Addr} {u : HO}, H' c = some u → A' c = none → upd (upd (upd A' l (.lst (fo.slots.map V.int))) y (.ins (fK K) dx (fF ⟨bb, fo.slots, 1⟩ l))) x'.fa (.dK (frV (fun k => if k = r then y else x'.fo k) (pt fs r ⟨bb, fo.slots, 1⟩))) c = none := fun {c u} e n => by
        rw [upd_ne (fun z => by rw [z, R'.frs] at n; cases n), upd_ne (ne_of_none (e2 _ _ e) ny), upd_ne (ne_of_none (e2 _ _ e) nl1)]; exact n
      have hlr8 := keep8 hlr nlr'
      -- rooms.append(room); below = room
      refine ⟨_, rfl, .inl ⟨rfl, _, SqL.of hlr8⟩, _, rfl, lr, _, _, rfl, rfl, hlr8, szl (by rw [List.length_map, clen]; rw [List.length_reverse, List.length_drop]; omega), ?_⟩
      have nlr8 := freeA hlr nlr'
      refine ⟨_, rfl, ?_⟩
      have esl : sl fs o = fo.slots := sl_of hfo
      rw [esl] at ecs
      rw [ecs]
      refine ⟨_, { x' with fo := fun k => if k = r then y else x'.fo k, so := fun k => if k = r then l else x'.so k, fd := fun k => if k = r then dx else x'.fd k }, _, _, rfl, hxp, R4, ?_, ?_, nlr8, ?_, freeA hs' ns', ?_, freeA h2 n2⟩
      · refine ⟨fun c u e => ?_, fun c u e n => ?_, S8.new⟩
        · rw [upd_ne (fun z => by rw [z, nlr8] at e; cases e)]; exact S8.own c u e
        · rw [upd_ne (fun z => by
            rw [z] at e n
            have := S2.oth
            have z1 := S1.oth lr u e n
            rw [nlr] at z1; cases z1)]
          exact S8.oth c u e n
      · rw [upd_same]
        show _ = some (HO.lst ((rs ++ [r]).map V.int))
        rw [List.map_append]; rfl
      · rw [upd_ne (ne_of_none hs1a nlr)]; exact keep8 hs' ns'
      · rw [upd_ne n12.symm]; exact keep8 h2 n2
    · rintro σ H' ⟨A', x', v6, v7, rfl, hxp, R', S', hlr, nlr', hs', ns', h2, n2⟩
      have full : (q.drop i).reverse.take ((q.drop i).map V.int).length = (q.drop i).reverse := by
        rw [List.take_of_length_le (by rw [List.length_reverse, List.length_map]; exact Nat.le_refl _)]
      rw [full] at R' hlr ⊢
      have Cf := cop (q.drop i).reverse.length
      rw [List.take_length] at Cf
      have clen := Cf.len
      unfold copied at k
      simp only [ebl] at k
      generalize et : copyL W.rooms (wantF W.frames b) b (q.drop i).reverse = t at R' hlr k hgi cup Cf clen
      obtain ⟨fs, bb, rs⟩ := t
      simp only at R' hlr k hgi cup Cf clen
      rw [List.length_reverse, List.length_drop] at clen
      have hp' := S'.own _ _ R'.ins
      rw [hxp] at hp'
      -- self.made
      refine ⟨_, rfl, x.p, _, _, _, _, rfl, hp', T.cl_Wood, T.a_made, wf_made, _, rfl, lr, _, rfl, .inl (SqL.of hlr), _, _, rfl, rfl, _, rfl, x.p, _, _, _, rfl, hp', T.cl_Wood, T.a_made, by show 6 < 1000; decide, ?_⟩
      rw [List.length_map]
      have R5 := R'.setNums W.many (W.made + (rs.length : Int))
      have S5 := S'.upd R'.ins (.ins (wK K) x'.dx (wF { W with frames := fs, made := W.made + (rs.length : Int) } x'.fa x'.ta x'.ma))
      rw [hxp] at R5 S5
      have nlr5 : upd A' x.p (.ins (wK K) x'.dx (wF { W with frames := fs, made := W.made + (rs.length : Int) } x'.fa x'.ta x'.ma)) lr = none := by
        rw [upd_ne (fun z => by rw [z, ← hxp, R'.ins] at nlr'; cases nlr')]; exact nlr'
      have hlr5 : upd H' x.p (.ins (wK K) x'.dx (wF { W with frames := fs, made := W.made + (rs.length : Int) } x'.fa x'.ta x'.ma)) lr = some (.lst (rs.map V.int)) := by
        rw [upd_ne (ne_of hlr hp' (by intro z; cases z))]; exact hlr
      have hs5 : upd H' x.p (.ins (wK K) x'.dx (wF { W with frames := fs, made := W.made + (rs.length : Int) } x'.fa x'.ta x'.ma)) s1 = some (.lst (q.map V.int)) := by
        rw [upd_ne (ne_of hs' hp' (by intro z; cases z))]; exact hs'
      have ns5 : upd A' x.p (.ins (wK K) x'.dx (wF { W with frames := fs, made := W.made + (rs.length : Int) } x'.fa x'.ta x'.ma)) s1 = none := by
        rw [upd_ne (fun z => by rw [z, ← hxp, R'.ins] at ns'; cases ns')]; exact ns'
      have hp5 := S5.own _ _ R5.ins
      rw [hxp] at hp5
      -- self.leave(path[first])
      have lv : Leave fs (some (q.getD i 0)) (leave fs (some (q.getD i 0))) := by
        rw [leave_more hgi ngi]; exact .stop hgi (by omega)
      refine ⟨_, rfl, x.p, _, _, rfl, hp5, wf_no (by decide +kernel), _, rfl, _, rfl, s1, _, (i : Int), _, rfl, rfl, SqL.of hs5, atI_int si, _, x', { W with frames := fs, made := W.made + (rs.length : Int) }, some (q.getD i 0), _, by rw [hxp]; rfl, S5.own, R5, lv, Cf.wf.nd, fun A6 H6 R6 S6 => ?_⟩
      have S7 := S5.trans S6
      obtain ⟨hlr6, nlr6⟩ := stp_keep S6 S5.own hlr5 nlr5
      obtain ⟨hs6, ns6⟩ := stp_keep S6 S5.own hs5 ns5
      have hp6 := S7.own _ _ R6.ins
      rw [hxp] at hp6
      refine ⟨_, rfl, rfl, _, rfl, ?_⟩
      have hr0 : atI (rs.map V.int) 0 = some (V.int (rs.headD 0)) := by
        refine atI_nat (j := 0) ?_
        cases rs with
        | nil => exfalso; simp at clen; omega
        | cons a t => rfl
      by_cases i0 : i = 0
      · subst i0
        simp only [if_true] at k
        refine iteT ?_
        refine ⟨_, rfl, _, rfl, x.p, _, _, _, _, rfl, hp6, T.cl_Wood, T.a_tops, wf_tops, _, rfl, x'.ta, _, h, h.toNat, rfl, rfl, S7.own _ _ R6.tps, by rw [List.length_map]; exact ixN_ok hk.1 hk.2, ?_⟩
        have e : ((W.tops.map oV).set h.toNat (oV bb)) = (W.tops.set h.toNat bb).map oV := by rw [List.map_set]
        rw [show ((W.tops.map oV).set h.toNat (oV bb)) = (W.tops.set h.toNat bb).map oV from e]
        have hlr7 : upd H6 x'.ta (.lst ((W.tops.set h.toNat bb).map oV)) lr = some (.lst (rs.map V.int)) := by
          rw [upd_ne (fun z => by rw [z, R6.tps] at nlr6; cases nlr6)]; exact hlr6
        exact ⟨_, rfl, lr, _, 0, _, rfl, rfl, SqL.of hlr7, hr0, k _ x' _ hxp (R6.setTops (W.tops.set h.toNat bb)) (S7.upd R6.tps _)⟩
      · rw [if_neg i0] at k
        rw [decide_eq_false (show ¬ V.int (i : Int) = V.int 0 by intro z; injection z with z; omega)]
        refine iteF ?_
        obtain ⟨gp, hgp⟩ := cup i0
        have ei : (i : Int) - 1 = ((i - 1 : Nat) : Int) := by omega
        have hfr6 := S7.own _ _ (R6.fr _ gp hgp)
        refine ⟨_, rfl, _, rfl, x.p, _, _, _, _, rfl, hp6, T.cl_Wood, T.a_frames, wf_frames, _, rfl, _, rfl, _, _, rfl, rfl, s1, _, (i : Int) - 1, V.int (q.getD (i - 1) 0), rfl, rfl, SqL.of hs6, by rw [ei]; exact atI_int (by omega), x'.fa, _, rfl, get_fr (S7.own _ _ R6.frs) hgp, x'.fo _, _, _, _, rfl, hfr6, T.cl_Frame, T.a_below, by show 3 < 1000; decide, ?_⟩
        have R8 := R6.setFr hgp bb gp.needs
        have S8 := S7.upd (R6.fr _ gp hgp) (.ins (fK K) (x'.fd (q.getD (i - 1) 0)) (fF { gp with below := bb } (x'.so (q.getD (i - 1) 0))))
        have esb : setBelow (leave fs (some (q.getD i 0))) (q.getD (i - 1) 0) bb = pt (leave fs (some (q.getD i 0))) (q.getD (i - 1) 0) { gp with below := bb } := by
          unfold setBelow; rw [hgp]
        rw [esb] at k
        have hlr8 : upd H6 (x'.fo (q.getD (i - 1) 0)) (.ins (fK K) (x'.fd (q.getD (i - 1) 0)) (fF { gp with below := bb } (x'.so (q.getD (i - 1) 0)))) lr = some (.lst (rs.map V.int)) := by
          rw [upd_ne (fun z => by rw [z, R6.fr _ gp hgp] at nlr6; cases nlr6)]; exact hlr6
        exact ⟨_, rfl, lr, _, 0, _, rfl, rfl, SqL.of hlr8, hr0, k _ x' _ hxp R8 S8⟩
theorem atI_pos {l : List Int} {d : Int} (h0 : 0 ≤ d) (h : d < (l.length : Int)) : atI (l.map V.int) d = some (V.int (l.getD d.toNat 0)) := by
  have : d = ((d.toNat : Nat) : Int) := by omega
  rw [this]
  exact atI_int (by omega)
theorem ok_Wood_put (T : Txt K mg) : FnOk P w K mg base (L2.CX P w) 4 (aW K "put") (fdOf K (aW K "put")) ["self", "hand", "depth", "slot", "value"] (spPut K) := by
  refine T.F_Wood_put.ok (CX := L2.CX P w) sc_Wood_put (fun vs H Q E h => ?_) (fun cdv A outer s H vs Q E hr h => ?_)
  · obtain ⟨_, _, _, _, _, _, _, rfl, _⟩ := h; rfl
  · obtain ⟨A, x, W, h, d, sl1, v, rfl, ⟨s0, R, F⟩, k⟩ := h
    refine ⟨_, (pss_cons (ps_asg (pe_meth (pv 0) T.cl_Wood T.m_way (ok_Wood_way T) (hr.mono (by decide)) T.b_Wood_way .nil (passes_call (takes_of rfl rfl rfl rfl) (fun _ _ _ _ h => h)) (pa_cons (pv 1) (pa_cons (pv 2) pa_nil))) (pg_tup rfl (pgs_cons (pg_name (i := 5) sc_Wood_put.nd rfl (Or.inl rfl)) (pgs_cons (pg_name (i := 6) sc_Wood_put.nd rfl (Or.inl rfl)) pgs_nil)))) (pss_cons (ps_if (pt_not (pt_chain op_le op_lt pe_int (pv 3) (pe_callB (call_lenK K rfl) rfl T.n_len PySem.boot_len (pa_cons (pe_fldK K rfl (pe_dget (hu_of hr) (pe_fldK K rfl (pv 0) rfl) (pe_ix (ix_listK K rfl) (pv 5) (pv 2) (fun _ _ => rfl)) (fun _ _ => rfl)) rfl) pa_nil)))) (pss_one (ps_raise rfl (takes_of rfl rfl rfl rfl) (pmk_own PySem.F.excBase_ValueError T.x_NoSlot.1 T.g_NoSlot T.x_NoSlot.2.1 (raises_own T.x_NoSlot.2.2.1 T.x_NoSlot.2.2.2) rfl))) pss_nil) (pss_cons (ps_if (pt_cmpR op_isN1 (pv 6) pe_non (nomark _)) (pss_cons (ps_asg (pv 4) (pg_sub (pe_fldK K rfl (pe_dget (hu_of hr) (pe_fldK K rfl (pv 0) rfl) (pe_ix (ix_listK K rfl) (pv 5) (pv 2) (fun _ _ => rfl)) (fun _ _ => rfl)) rfl) (pv 3) set_list)) (pss_one (ps_ret pe_int))) pss_nil) (pss_cons (ps_expr (pe_meth (pv 0) T.cl_Wood T.m_need_free (ok_Wood_need_free T) (hr.mono (by decide)) T.b_Wood_need_free .nil (passes_call (takes_of rfl rfl rfl rfl) (fun _ _ _ _ h => h)) (pa_cons (pe_op op_add (pe_op op_sub (pv 2) (pv 6)) pe_int) pa_nil))) (pss_cons (ps_set (i := 7) sc_Wood_put.nd rfl (Or.inl rfl) (pe_meth (pv 0) T.cl_Wood T.m_copied (ok_Wood_copied T) (hr.mono (by decide)) T.b_Wood_copied .nil pass0 (pa_cons (pv 1) (pa_cons (pv 5) (pa_cons (pv 6) pa_nil))))) (pss_cons (ps_asg (pv 4) (pg_sub (pe_fldK K rfl (pe_dget (hu_of hr) (pe_fldK K rfl (pv 0) rfl) (pv 7) (fun _ _ => rfl)) rfl) (pv 3) set_list)) (pss_one (ps_ret (pe_op op_add (pe_op op_sub (pv 2) (pv 6)) pe_int))))))))), ?_⟩
    unfold doPut at k
    have hp := s0 _ _ R.ins
    refine ⟨_, rfl, x.p, _, _, rfl, hp, wf_no (by decide +kernel), _, rfl, _, rfl, A, x, W, h, d, rfl, ⟨s0, R, F⟩, ?_⟩
    cases ew : doWay W h d with
    | error er => rw [ew] at k; exact k
    | ok r =>
      obtain ⟨q, o⟩ := r
      rw [ew] at k
      simp only at k
      -- what the way is
      have wk : hOk W h ∧ 0 ≤ d ∧ d < ((path W.frames (top W h)).length : Int) ∧ q = (path W.frames (top W h)).take (d.toNat + 1) ∧ o = (sh W.frames q).head? := by
        unfold doWay at ew
        split at ew
        · cases ew
        · rename_i h1
          split at ew
          · cases ew
          · rename_i h2
            have e := Except.ok.inj ew
            have e1 := congrArg Prod.fst e
            have e2 := congrArg Prod.snd e
            have h2 := Decidable.byContradiction h2
            have e1' : (path W.frames (top W h)).take (d.toNat + 1) = q := e1
            refine ⟨Decidable.byContradiction h1, h2.1, h2.2, e1'.symm, ?_⟩
            rw [← e1']; exact e2.symm
      obtain ⟨hk, d0, dl, eq0, eo⟩ := wk
      have hql : q.length = d.toNat + 1 := by rw [eq0, List.length_take]; omega
      have pth := F.tpath h
      have hlen : (path W.frames (top W h)).length ≤ 40 := Nat.le_trans pth.len F.len
      have hqd : q.getD d.toNat 0 ∈ path W.frames (top W h) := by
        have : q.getD d.toNat 0 ∈ q := by
          rw [List.getD_eq_getElem?_getD, List.getElem?_eq_getElem (by omega)]; exact List.getElem_mem _
        rw [eq0] at this
        rw [eq0]; exact List.mem_of_mem_take this
      obtain ⟨fd, hfd⟩ := pth.in _ hqd
      intro H1 t l e1 nl ht hl
      have up : ∀ {b : Addr} {u : HO}, A b = some u → H1 b = some u := fun {b u} e => e1 _ _ (s0 _ _ e)
      have S1 := (Stp.refl s0).same e1
      refine ⟨t, _, rfl, SqT.of ht, rfl, _, _, rfl, _, _, rfl, rfl, ?_⟩
      -- the slot
      refine ⟨_, rfl, _, _, rfl, rfl, _, rfl, ?_⟩
      have esl : sl W.frames (q.getD d.toNat 0) = fd.slots := sl_of hfd
      rw [esl] at k
      have hixd := atI_pos (l := q) d0 (by omega)
      by_cases a0 : 0 ≤ sl1
      · rw [decide_eq_true a0]
        refine iteT ⟨_, rfl, x.p, _, _, _, _, rfl, up R.ins, T.cl_Wood, T.a_frames, wf_frames, _, rfl, _, rfl, l, _, _, _, rfl, rfl, SqL.of hl, hixd, x.fa, _, rfl, get_fr (up R.frs) hfd, x.fo _, _, _, _, _, rfl, up (R.fr _ fd hfd), T.cl_Frame, T.a_slots, ff_slots, x.so _, _, rfl, .inl (SqL.of (up (R.sl _ fd hfd))), _, _, rfl, rfl, _, rfl, ?_⟩
        rw [List.length_map]
        by_cases a1 : sl1 < (fd.slots.length : Int)
        · rw [decide_eq_true a1]
          rw [if_neg (fun z => z ⟨a0, a1⟩)] at k
          refine iteF ⟨_, rfl, rfl, _, rfl, ?_⟩
          cases o with
          | none =>
            simp only at k
            refine iteT ⟨_, rfl, _, rfl, x.p, _, _, _, _, rfl, up R.ins, T.cl_Wood, T.a_frames, wf_frames, _, rfl, _, rfl, l, _, _, _, rfl, rfl, SqL.of hl, hixd, x.fa, _, rfl, get_fr (up R.frs) hfd, x.fo _, _, _, _, _, rfl, up (R.fr _ fd hfd), T.cl_Frame, T.a_slots, ff_slots, _, rfl, x.so _, _, sl1, sl1.toNat, rfl, rfl, up (R.sl _ fd hfd), by rw [List.length_map]; exact ixN_ok a0 a1, ?_⟩
            have e : (fd.slots.map V.int).set sl1.toNat (V.int v) = (fd.slots.set sl1.toNat v).map V.int := by rw [List.map_set]
            rw [e]
            have ess : setSlot W.frames (q.getD d.toNat 0) sl1 v = pt W.frames (q.getD d.toNat 0) { fd with slots := fd.slots.set sl1.toNat v } := by unfold setSlot; rw [hfd]
            rw [ess] at k
            exact k _ x _ rfl (R.setSl hfd _) (S1.upd (R.sl _ fd hfd) _)
          | some i =>
            simp only at k
            refine iteF ⟨_, rfl, x.p, _, _, rfl, up R.ins, wf_no (by decide +kernel), _, rfl, _, rfl, _, _, rfl, rfl, _, _, rfl, rfl, A, x, W, d - (i : Int) + 1, rfl, S1.own, R, fun hfree => ?_, fun hfull => ?_⟩
            · rw [if_neg (by omega)] at k
              have room : (W.frames.length : Int) + (((d.toNat : Nat) : Int) - i + 1) ≤ W.rooms := by omega
              refine ⟨_, rfl, x.p, _, _, rfl, up R.ins, wf_no (by decide +kernel), _, rfl, _, rfl, _, rfl, A, x, W, h, l, q, i, d.toNat, rfl, ⟨S1.own, R, F⟩, hk, hl, S1.free0' nl s0, by omega, eq0.symm, eo.symm, room, fun A2 x2 H2 hx2 R2 S2 => ?_⟩
              have C := copied_ok F hk rfl (by omega) eq0.symm eo.symm room
              have c5 := C.at_
              obtain ⟨fr, hfr⟩ := (C.wfw.tpath h).in _ (List.mem_of_getElem? c5)
              have c9 : sl (copied W h q i).2.frames (copied W h q i).1 = fd.slots := by
                have a : (vals (copied W h q i).2)[h.toNat]? = some (vl (copied W h q i).2.frames (top (copied W h q i).2 h)) := by unfold vals; rw [List.getElem?_map, top_get C.hok]; rfl
                have b : (vals W)[h.toNat]? = some (vl W.frames (top W h)) := by unfold vals; rw [List.getElem?_map, top_get hk]; rfl
                have e := C.vals
                rw [e, b] at a
                have e2 := Option.some.inj a
                have e3 : (vl (copied W h q i).2.frames (top (copied W h q i).2 h))[d.toNat]? = some (sl (copied W h q i).2.frames (copied W h q i).1) := by unfold vl; rw [List.getElem?_map, c5]; rfl
                have e4 : (vl W.frames (top W h))[d.toNat]? = some (sl W.frames (q.getD d.toNat 0)) := by
                  unfold vl
                  rw [List.getElem?_map, eq0, List.getD_eq_getElem?_getD, List.getElem?_take_of_lt (by omega), List.getElem?_eq_getElem (by omega)]; rfl
                rw [← e2, e4, esl] at e3
                exact (Option.some.inj e3).symm
              rw [sl_of hfr] at c9
              have S3 := S1.trans S2
              have hp2 := S3.own _ _ R2.ins
              rw [hx2] at hp2
              have hsr := S3.own _ _ (R2.sl _ fr hfr)
              refine ⟨_, rfl, _, rfl, x.p, _, _, _, _, rfl, hp2, T.cl_Wood, T.a_frames, wf_frames, _, rfl, x2.fa, _, rfl, get_fr (S3.own _ _ R2.frs) hfr, x2.fo _, _, _, _, _, rfl, S3.own _ _ (R2.fr _ fr hfr), T.cl_Frame, T.a_slots, ff_slots, _, rfl, x2.so _, _, sl1, sl1.toNat, rfl, rfl, hsr, by rw [List.length_map, c9]; exact ixN_ok a0 a1, ?_⟩
              have e : (fr.slots.map V.int).set sl1.toNat (V.int v) = (fr.slots.set sl1.toNat v).map V.int := by rw [List.map_set]
              rw [e]
              have ess : setSlot (copied W h q i).2.frames (copied W h q i).1 sl1 v = pt (copied W h q i).2.frames (copied W h q i).1 { fr with slots := fr.slots.set sl1.toNat v } := by unfold setSlot; rw [hfr]
              rw [ess] at k
              exact ⟨_, rfl, _, rfl, _, _, rfl, rfl, _, _, rfl, rfl, k _ x2 _ hx2 (R2.setSl hfr _) (S3.upd (R2.sl _ fr hfr) _)⟩
            · rw [if_pos hfull] at k
              exact k _ e1
        · rw [decide_eq_false a1]
          rw [if_pos (fun z => a1 z.2)] at k
          exact iteT (k _ e1)
      · rw [decide_eq_false a0]
        rw [if_pos (fun z => a0 z.1)] at k
        exact iteF ⟨_, rfl, iteT (k _ e1)⟩
end
end Sk
end
section
/-! SwM5: what calls tells. -/
namespace Sk
open PySem PySem.Spec PyProof.Rows L2 SW
/-- a row of calls: its tuple, its list, the room, the frame -/
abbrev CRow : Type := Addr × Addr × Int × Fr
def RowAt (H : Hp) (t : CRow) : Prop := H t.1 = some (.tup [.int t.2.2.1, oV t.2.2.2.below, .int t.2.2.2.needs, .ref t.2.1]) ∧ H t.2.1 = some (.lst (t.2.2.2.slots.map V.int))
structure CallsAt (H H' : Hp) (p : Addr) (ts : List CRow) : Prop where
  same : Same H H'
  np : H p = none
  lst : H' p = some (.lst (ts.map fun t => V.ref t.1))
  rows : ∀ t ∈ ts, RowAt H' t
  nt : ∀ t ∈ ts, H t.1 = none ∧ H t.2.1 = none ∧ t.2.1 ≠ p
/-- the frames by their rooms -/
def Rows (W : Wd) (ts : List CRow) : Prop := (ts.map fun t => t.2.2.1).Perm (ks W.frames) ∧ (ts.map fun t => t.2.2.1).Pairwise (· ≤ ·) ∧ ∀ t ∈ ts, lk W.frames t.2.2.1 = some t.2.2.2
def spCalls (K : PySem.W.Frag) : Sp := fun vs H Q _ => ∃ (A : Hp) (x : Ad) (W : Wd), vs = [.ref x.p] ∧ At K A H x W ∧ ∀ H' p ts, CallsAt H H' p ts → Rows W ts → Q (.ref p) H'
section
variable {P : Program} {w : World} {K : PySem.W.Frag} {mg : Str → Option Value} {base : Heap}
theorem ok_Wood_calls (T : Txt K mg) : FnOk P w K mg base CX0 1 (aW K "calls") (fdOf K (aW K "calls")) ["self"] (spCalls K) := by
  refine T.F_Wood_calls.ok sc_Wood_calls (fun vs H Q E h => ?_) (fun cdv A outer s H vs Q E hr h => ?_)
  · obtain ⟨_, _, _, rfl, _⟩ := h; rfl
  · obtain ⟨A, x, W, rfl, ⟨s0, R, F⟩, k⟩ := h
    refine ⟨_, PSs.nox (pss_cons (ps_set (i := 1) sc_Wood_calls.nd rfl (Or.inl rfl) (pe_lst pa_nil)) (pss_cons (ps_for PassesOwn.never rfl (pi_listK K rfl (pe_callB (call_sortedDA rfl) rfl T.n_sorted (by decide +kernel) (pa_cons (pe_fldK K rfl (pv 0) rfl) pa_nil))) (pg_name (i := 2) sc_Wood_calls.nd rfl (Or.inl rfl)) (pss_cons (ps_set (i := 3) sc_Wood_calls.nd rfl (Or.inl rfl) (pe_dget (hu_of hr) (pe_fldK K rfl (pv 0) rfl) (pv 2) (fun _ _ => rfl))) (pss_one (ps_expr (pe_bm PySem.F.plainAttrs_list PySem.F.slot_list_append PySem.F.type_list_append mt_append (pv 1) (by exact (pa_cons (pe_tup (pa_cons (pv 2) (pa_cons (pe_fldK K rfl (pv 3) rfl) (pa_cons (pe_fldK K rfl (pv 3) rfl) (pa_cons (pe_callTy (call_listK K rfl) rfl T.n_list (by decide +kernel) (pa_cons (pe_fldK K rfl (pv 3) rfl) pa_nil)) pa_nil))))) pa_nil))))))) (pss_one (ps_ret (pv 1))))), ?_⟩
    refine ⟨Nat.zero_le _, fun p np => ?_⟩
    have e1 := same_new np (.lst [])
    have up1 : ∀ {b : Addr} {o : HO}, A b = some o → upd H p (.lst []) b = some o := fun e => e1 _ _ (s0 _ _ e)
    have kl : (ks W.frames).length ≤ 40 := by rw [← len_ks]; exact F.len
    refine ⟨_, rfl, x.p, _, _, _, _, rfl, up1 R.ins, T.cl_Wood, T.a_frames, wf_frames, x.fa, _, ks W.frames, rfl, .inl (up1 R.frs), ?_, by omega, fun ys q hp hs nq => ?_⟩
    · unfold frV ks; rw [List.map_map, List.map_map]; rfl
    have npq : p ≠ q := ne_of_none upd_same nq
    have yl : ys.length ≤ 40 := by rw [hp.length_eq]; exact kl
    refine ⟨q, rfl, ⟨_, SqL.of upd_same⟩, ?_⟩
    refine for_list (K := K) (a := q) (xs := ys.map V.int) (fun i σ H' => ∃ (u2 u3 : Option V) (ts : List CRow), σ = [some (.ref x.p), some (.ref p), u2, u3] ∧ CallsAt H H' p ts ∧ H' q = some (.lst (ys.map V.int)) ∧ ts.map (fun t => t.2.2.1) = ys.take i ∧ ∀ t ∈ ts, lk W.frames t.2.2.1 = some t.2.2.2)
      ⟨none, none, [], rfl, ⟨fun b o e => by rw [upd_ne (ne_of_none (e1 _ _ e) nq)]; exact e1 _ _ e, np, by rw [upd_ne npq]; exact upd_same, by simp, by simp⟩, upd_same, rfl, by simp⟩ (fun i σ H' _ ⟨_, _, _, _, _, e, _⟩ => SqL.of e) ?_ ?_
    · rintro i v σ H' hi ⟨u2, u3, ts, rfl, C, hq, hr9, hf⟩
      obtain ⟨r, er, rfl⟩ : ∃ r, ys[i]? = some r ∧ v = V.int r := by
        rw [List.getElem?_map] at hi
        cases e : ys[i]? with
        | none => rw [e] at hi; cases hi
        | some r => rw [e] at hi; exact ⟨r, rfl, (Option.some.inj hi).symm⟩
      obtain ⟨f, ef⟩ := mem_ks.mp (hp.subset (List.mem_of_getElem? er))
      have up : ∀ {b : Addr} {o : HO}, A b = some o → H' b = some o := fun e => C.same _ _ (s0 _ _ e)
      have hfr := up (R.fr r f ef)
      refine ⟨_, rfl, x.p, _, _, _, _, rfl, up R.ins, T.cl_Wood, T.a_frames, wf_frames, _, rfl, x.fa, _, rfl, get_fr (up R.frs) ef, ?_⟩
      refine ⟨_, rfl, .inl ⟨rfl, _, SqL.of C.lst⟩, _, rfl, _, rfl, x.fo r, _, _, _, _, rfl, hfr, T.cl_Frame, T.a_below, ff_below, _, rfl, x.fo r, _, _, _, _, rfl, hfr, T.cl_Frame, T.a_needs, ff_needs, _, rfl, x.fo r, _, _, _, _, rfl, hfr, T.cl_Frame, T.a_slots, ff_slots, x.so r, _, rfl, .inl (SqL.of (up (R.sl r f ef))), fun l nl => ?_⟩
      refine ⟨by show 4 ≤ sizeLine; exact sz (by omega), fun t nt => ?_⟩
      have npl : p ≠ l := ne_of_none C.lst nl
      have nlt : l ≠ t := ne_of_none upd_same nt
      have e2 := same_new nl (.lst (f.slots.map V.int))
      have e3 := e2.trans (same_new nt (.tup [V.int r, oV f.below, V.int f.needs, V.ref l]))
      have npt : p ≠ t := ne_of_none (e2 _ _ C.lst) nt
      have lts := congrArg List.length hr9
      rw [List.length_map, List.length_take] at lts
      refine ⟨p, _, _, rfl, rfl, e3 _ _ C.lst, szl (by rw [List.length_map]; omega), ?_⟩
      have hlt : H t = none := C.same.free (e2.free nt)
      refine ⟨_, _, ts ++ [(t, l, r, f)], rfl, ⟨fun b o e => ?_, np, by rw [upd_same, List.map_append]; rfl, fun z hz => ?_, fun z hz => ?_⟩, ?_, by rw [List.map_append, hr9, take_snoc er]; rfl, fun z hz => ?_⟩
      · rw [upd_ne (ne_of_none e np)]; exact e3 _ _ (C.same _ _ e)
      · rcases List.mem_append.mp hz with w | w
        · obtain ⟨r1, r2⟩ := C.rows z w
          have n1 : z.1 ≠ p := ne_of r1 C.lst (by intro q; cases q)
          exact ⟨by rw [upd_ne n1]; exact e3 _ _ r1, by rw [upd_ne (C.nt z w).2.2]; exact e3 _ _ r2⟩
        · have : z = (t, l, r, f) := by simpa using w
          subst this
          exact ⟨by rw [upd_ne npt.symm]; exact upd_same, by rw [upd_ne npl.symm, upd_ne nlt]; exact upd_same⟩
      · rcases List.mem_append.mp hz with w | w
        · exact C.nt z w
        · have : z = (t, l, r, f) := by simpa using w
          subst this
          exact ⟨hlt, C.same.free nl, npl.symm⟩
      · have nqp : q ≠ p := npq.symm
        rw [upd_ne nqp]; exact e3 _ _ hq
      · rcases List.mem_append.mp hz with w | w
        · exact hf z w
        · have : z = (t, l, r, f) := by simpa using w
          subst this; exact ef
    · rintro σ H' ⟨u2, u3, ts, rfl, C, hq, hr9, hf⟩
      rw [List.length_map, List.take_length] at hr9
      exact ⟨_, rfl, k H' p ts C ⟨by rw [hr9]; exact hp, by rw [hr9]; exact hs, hf⟩⟩
end
end Sk
end
section
/-! SwKit2: more rules for the laws' own defs. -/
namespace Sk
open PySem PySem.Spec PyProof.Rows L2
/-- a list display, its place no object of the written part -/
def tLstN (K : PySem.W.Frag) (t : TA) : TE := fun σ H Q => t σ H fun xs H1 => xs.length ≤ sizeLine ∧ ∀ p, H1 p = none → K.lookup p = none → Q (.ref p) (upd H1 p (.lst xs))
theorem pe_lstN {X : Cx} {K : PySem.W.Frag} {es : List Expr} {t : TA} {pos : Pos} (hK : X.K = K) (h : PA X es t) : PE X (.List es pos) (tLstN K t) := by
  subst hK
  refine ⟨fun pins s σ H Q I hq => wpAny_List_spliced (thn (h.run pos pins s σ H _ I hq) fun us s1 ⟨xs, H1, I1, r, z, q⟩ => ⟨by rw [← r.length]; exact z, ?_⟩)⟩
  have hn : X.K.lookup s1.heap.objs.size = none := by
    cases e : X.K.lookup s1.heap.objs.size with
    | none => rfl
    | some o => exact absurd (Heap.lt_size (I1.kIn _ _ e)) (Nat.lt_irrefl _)
  exact ⟨.ref _, upd H1 s1.heap.objs.size (.lst xs), I1.laid (t' := s1.toks) (fun _ _ e => Heap.get?_push_of_some _ e) (Nat.le_refl _) ⟨z, us, 0, r, Heap.get?_push_size _ rfl⟩, rfl, q _ (I1.hok.fresh (Nat.le_refl _)) hn⟩
theorem ix_seqK {X : Cx} (K : PySem.W.Frag) (h : X.K = K) : IxR X (rIx K) := by subst h; exact ix_seq
/-- xs.count(b), a list of truth values -/
def rCntB (K : PySem.W.Frag) : V → List V → Hp → VK → Prop := fun x xs H Q => ∃ (p : Addr) (bs : List Bool) (k : Bool), x = .ref p ∧ xs = [.bl k] ∧ SqL K H p (bs.map V.bl) ∧ Q (.int (countIn (.bool k) (bs.map PyData.bool))) H
theorem dp_bools {K : PySem.W.Frag} {H : Hp} : ∀ bs : List Bool, DpAll K H (bs.map V.bl) (bs.map PyData.bool)
  | [] => .nil
  | b :: r => .cons (.bl b) (dp_bools r)
theorem mt_countB {X : Cx} {K : PySem.W.Frag} (hK : X.K = K) : MtR X "list.count" (rCntB K) := by
  subst hK
  rintro pins s σ H x xs v us Q I rx rxs ⟨p, bs, k, rfl, rfl, hs, q⟩
  cases rx
  obtain ⟨u, rfl, ru⟩ := rxs.one
  obtain rfl : u = Value.bool k := ru
  obtain ⟨its, rv, hl, hlen⟩ := I.list hs
  obtain ⟨as, ra⟩ := Dp.readsAll I (bs.map PyData.bool) (bs.map V.bl) its (dp_bools bs) rv
  refine count_list_bools hl.isList ra (by induction bs with | nil => rfl | cons b r ih => exact (Bool.and_eq_true _ _).mpr ⟨rfl, by rw [List.all_eq_true]; intro z hz; obtain ⟨b, _, rfl⟩ := List.mem_map.mp hz; rfl⟩) ?_
  exact ⟨.int _, H, I.tok _, ⟨_, rfl⟩, q⟩
end Sk
end
section
/-! SwL1: the law's dice, numbers and deeds. -/
namespace Sk
open PySem PySem.Spec PyProof.Rows L2 SW
theorem ifT {c : Bool} {A B : Prop} (h : c = true) (a : A) : if c = true then A else B := by rw [h, if_pos rfl]; exact a
theorem ifF {c : Bool} {A B : Prop} (h : c = false) (b : B) : if c = true then A else B := by rw [h, if_neg (by decide)]; exact b
abbrev aG (K : PySem.W.Frag) (x : Str) : Addr := He.fAd K (x, none)
/-- the dice at d, over the script at a -/
def diceL (a : Addr) (i m r : Int) : List V := [.ref a, .int i, .int m, .int r]
def Dice (H : Hp) (d a : Addr) : Prop := d ≠ a ∧ ∃ i m r : Int, 0 ≤ i ∧ H d = some (.lst (diceL a i m r))
/-- the deeds -/
inductive Deed
  | call (h : Int) (vs : List Int)
  | back (h : Int)
  | put (h d s v : Int)
  | branch (h o : Int)
  | keep (h : Int)
  | leap (h p : Int)
  | forget (p : Int)
/-- a deed's tuple at t -/
def DeedAt (H : Hp) (t : Addr) : Deed → Prop
  | .call h vs => ∃ l, H t = some (.tup [.str "call", .int h, .ref l]) ∧ H l = some (.lst (vs.map V.int))
  | .back h => H t = some (.tup [.str "back", .int h])
  | .put h d s v => H t = some (.tup [.str "put", .int h, .int d, .int s, .int v])
  | .branch h o => H t = some (.tup [.str "branch", .int h, .int o])
  | .keep h => H t = some (.tup [.str "keep", .int h])
  | .leap h p => H t = some (.tup [.str "leap", .int h, .int p])
  | .forget p => H t = some (.tup [.str "forget", .int p])
/-- what is new in H' -/
def fresh (H H' : Hp) : Hp := fun b => match H b with
  | none => H' b
  | some _ => none
theorem fresh_of {H H' : Hp} {b : Addr} {o : HO} (n : H b = none) (e : H' b = some o) : fresh H H' b = some o := by
  unfold fresh; rw [n]; exact e
theorem fresh_to {H H' : Hp} {b : Addr} {o : HO} (e : fresh H H' b = some o) : H b = none ∧ H' b = some o := by
  unfold fresh at e
  cases q : H b with
  | none => rw [q] at e; exact ⟨rfl, e⟩
  | some u => rw [q] at e; cases e
theorem DeedAt.up {H H' : Hp} {t : Addr} {D : Deed} (h : DeedAt H t D) (k1 : ∀ b xs, H b = some (.tup xs) → H' b = some (.tup xs)) (k2 : ∀ b xs, H b = some (.lst xs) → H' b = some (.lst xs)) : DeedAt H' t D := by
  cases D with
  | call h vs =>
    obtain ⟨l, h1, h2⟩ := h
    exact ⟨l, k1 _ _ h1, k2 _ _ h2⟩
  | back h0 => exact k1 _ _ h
  | put h0 d s v => exact k1 _ _ h
  | branch h0 o => exact k1 _ _ h
  | keep h0 => exact k1 _ _ h
  | leap h0 p => exact k1 _ _ h
  | forget p => exact k1 _ _ h
theorem DeedAt.of {H H' : Hp} {t : Addr} {D : Deed} (h : DeedAt (fresh H H') t D) : DeedAt H' t D := h.up (fun _ _ e => (fresh_to e).2) fun _ _ e => (fresh_to e).2
/-- what is drawn -/
def Drawn (hands deep places : Int) : Deed → Prop
  | .call h vs => (0 ≤ h ∧ h < hands) ∧ vs.length ≤ 3 ∧ ∀ v ∈ vs, -1000 ≤ v ∧ v ≤ 1000
  | .back h => 0 ≤ h ∧ h < hands
  | .put h d s v => (0 ≤ h ∧ h < hands) ∧ (0 ≤ d ∧ d ≤ deep) ∧ (0 ≤ s ∧ s < 3) ∧ -1000 ≤ v ∧ v ≤ 1000
  | .branch h o => (0 ≤ h ∧ h < hands) ∧ 0 ≤ o ∧ o < hands
  | .keep h => 0 ≤ h ∧ h < hands
  | .leap h p => (0 ≤ h ∧ h < hands) ∧ 0 ≤ p ∧ p ≤ places
  | .forget p => 0 ≤ p ∧ p ≤ places
section
variable (K : PySem.W.Frag)
def spDice : Sp := fun vs H Q _ => ∃ (a : Addr) (ns : List Int), vs = [.ref a] ∧ SqL K H a (ns.map V.int) ∧ ns.length ≤ 63 ∧ ∀ d m, H d = none → d ≠ a → Q (.ref d) (upd H d (.lst (diceL a 0 m 0)))
def spNext : Sp := fun vs H Q _ => ∃ (d a : Addr) (n : Int) (ns : List Int), vs = [.ref d, .int n] ∧ Dice H d a ∧ SqL K H a (ns.map V.int) ∧ (0 < n ∧ n ≤ 2000000000) ∧
  ∀ v i m r, 0 ≤ v → v < n → 0 ≤ i → Q (.int v) (upd H d (.lst (diceL a i m r)))
def spNumber : Sp := fun vs H Q _ => ∃ (d a : Addr) (ns : List Int), vs = [.ref d] ∧ Dice H d a ∧ SqL K H a (ns.map V.int) ∧
  ∀ v H', -1000 ≤ v → v ≤ 1000 → Dice H' d a → Kp d H H' → Q (.int v) H'
def spDeed : Sp := fun vs H Q _ => ∃ (d a t : Addr) (ns : List Int) (hands deep places : Int), vs = [.ref d, .ref t] ∧ Dice H d a ∧ SqL K H a (ns.map V.int) ∧ H t = some (.tup [.int hands, .int deep, .int places]) ∧ (1 ≤ hands ∧ hands ≤ 6) ∧ (0 ≤ deep ∧ deep ≤ 1000000) ∧ (0 ≤ places ∧ places ≤ 1000000) ∧
  ∀ t' D H', Drawn hands deep places D → DeedAt (fresh H H') t' D → Dice H' d a → Kp d H H' → Q (.ref t') H'
end
theorem sq_upd {K : PySem.W.Frag} {H : Hp} {d a : Addr} {xs zs : List V} {ns : List Int} (h : SqL K H a (ns.map V.int)) (_ : H d = some (.lst xs)) (n : d ≠ a) : SqL K (upd H d (.lst zs)) a (ns.map V.int) := by
  rcases h with (h | ⟨o, h⟩) | h
  · exact .inl (.inl ((upd_ne n.symm).trans h))
  · exact .inl (.inr ⟨o, (upd_ne n.symm).trans h⟩)
  · exact .inr h
theorem Kp.sq {K : PySem.W.Frag} {H H' : Hp} {d a : Addr} {xs : List V} (k : Kp d H H') (h : SqL K H a xs) (n : a ≠ d) : SqL K H' a xs := by
  rcases h with (h | ⟨o, h⟩) | h
  · exact .inl (.inl (k a _ n h))
  · exact .inl (.inr ⟨o, k a _ n h⟩)
  · exact .inr h
theorem Kp.refl (d : Addr) (H : Hp) : Kp d H H := fun _ _ _ e => e
theorem Kp.trans {d : Addr} {H H1 H2 : Hp} (a : Kp d H H1) (b : Kp d H1 H2) : Kp d H H2 := fun c o n e => b c o n (a c o n e)
theorem Kp.of {d : Addr} {H H' : Hp} (s : Same H H') : Kp d H H' := fun c o _ e => s c o e
section
variable {P : Program} {w : World} {K : PySem.W.Frag} {mg : Str → Option Value} {base : Heap}
theorem ok_l_dice (T : Txt K mg) : FnOk P w K mg base CX0 1 (aG K "_law_dice") (fdOf K (aG K "_law_dice")) ["_law_script"] (spDice K) := by
  refine T.F_l_dice.ok sc_l_dice (fun vs H Q E h => ?_) (fun cdv A outer s H vs Q E hr h => ?_)
  · obtain ⟨_, _, rfl, _⟩ := h; rfl
  · obtain ⟨a, ns, rfl, hs, hl, k⟩ := h
    refine ⟨_, PSs.nox (pss_cons (ps_set (i := 1) sc_l_dice.nd rfl (Or.inl rfl) pe_int) (pss_cons (ps_for PassesOwn.never rfl (pi_listK K rfl (pv 0)) (pg_name (i := 2) sc_l_dice.nd rfl (Or.inl rfl)) (pss_one (ps_set (i := 1) sc_l_dice.nd rfl (Or.inl rfl) (pe_op op_mod (pe_op op_add (pe_op op_add (pe_op op_mul (pv 1) pe_int) (pe_op op_mul (pe_op op_mod (pv 2) pe_int) pe_int)) pe_int) pe_int)))) (pss_one (ps_ret (pe_lstN (K := K) rfl (pa_cons (pv 0) (pa_cons pe_int (pa_cons (pe_op op_mul (pv 1) (pe_callTy call_int1 rfl T.n_int (by decide +kernel) (pa_cons (pe_cmpR op_gt (pe_callB (call_lenK K rfl) rfl T.n_len PySem.boot_len (pa_cons (pv 0) pa_nil)) pe_int (nomark _)) pa_nil))) (pa_cons pe_int pa_nil))))))))), ?_⟩
    refine ⟨_, rfl, a, rfl, ⟨_, hs⟩, ?_⟩
    refine for_list (K := K) (a := a) (xs := ns.map V.int) (fun i σ H' => ∃ (m : Int) (v : Option V), σ = [some (.ref a), some (.int m), v] ∧ H' = H) ⟨0, none, rfl, rfl⟩ (fun i σ H' _ ⟨_, _, _, e⟩ => e ▸ hs) ?_ ?_
    · rintro i y σ H' hi ⟨m, v, rfl, rfl⟩
      obtain ⟨u, rfl⟩ : ∃ u, y = V.int u := by
        rw [List.getElem?_map] at hi
        cases e : ns[i]? with
        | none => rw [e] at hi; cases hi
        | some r => rw [e] at hi; exact ⟨r, (Option.some.inj hi).symm⟩
      refine ⟨_, rfl, _, _, rfl, rfl, .inr ⟨by decide, by decide⟩, _, rfl, _, _, rfl, rfl, by show (0 : Int) < 2147483647; decide, _, _, rfl, rfl, .inr ⟨by decide, by decide⟩, _, _, rfl, rfl, _, _, rfl, rfl, _, _, rfl, rfl, by show (0 : Int) < 2147483647; decide, ?_⟩
      exact ⟨_, _, rfl, rfl⟩
    · rintro σ H' ⟨m, v, rfl, rfl⟩
      refine ⟨_, rfl, _, rfl, _, rfl, a, _, rfl, .inl hs, _, _, rfl, rfl, .inr ⟨_, rfl, ?_⟩⟩
      have hb : ∀ c : Bool, CMul m (if c = true then 1 else 0) := fun c => .inr (by cases c <;> decide)
      refine ⟨_, _, rfl, rfl, hb _, by show 4 ≤ sizeLine; exact sz (by omega), fun d nd nK => ?_⟩
      refine k d _ nd (fun z => ?_)
      subst z
      rcases hs with (h | ⟨o, h⟩) | ⟨o, _, _, h, _⟩
      · rw [nd] at h; cases h
      · rw [nd] at h; cases h
      · rw [nK] at h; cases h
theorem ok_l_next (T : Txt K mg) : FnOk P w K mg base CX0 1 (aG K "_law_next") (fdOf K (aG K "_law_next")) ["_law_dice_here", "_law_many"] (spNext K) := by
  refine T.F_l_next.ok sc_l_next (fun vs H Q E h => ?_) (fun cdv A outer s H vs Q E hr h => ?_)
  · obtain ⟨_, _, _, _, rfl, _⟩ := h; rfl
  · obtain ⟨d, a, n, ns, rfl, ⟨nda, i, m, r, i0, hd⟩, hs, ⟨n0, n9⟩, k⟩ := h
    refine ⟨_, PSs.nox (pss_cons (ps_if (pt_cmpR op_gt (pe_ix (ix_listK K rfl) (pv 0) pe_int (fun _ _ => rfl)) pe_int (nomark _)) (pss_cons (ps_set (i := 2) sc_l_next.nd rfl (Or.inl rfl) (pe_op op_mod (pe_ix (ix_listK K rfl) (pv 0) pe_int (fun _ _ => rfl)) (pv 1))) (pss_cons (ps_asg (pe_op op_fdivW (pe_ix (ix_listK K rfl) (pv 0) pe_int (fun _ _ => rfl)) (pv 1)) (pg_sub (pv 0) pe_int set_list)) (pss_one (ps_ret (pv 2))))) pss_nil) (pss_cons (ps_asg (pe_op op_add (pe_ix (ix_listK K rfl) (pv 0) pe_int (fun _ _ => rfl)) pe_int) (pg_sub (pv 0) pe_int set_list)) (pss_cons (ps_if (pt_cmpR op_le (pe_ix (ix_listK K rfl) (pv 0) pe_int (fun _ _ => rfl)) (pe_callB (call_lenK K rfl) rfl T.n_len PySem.boot_len (pa_cons (pe_ix (ix_listK K rfl) (pv 0) pe_int (fun _ _ => rfl)) pa_nil)) (nomark _)) (pss_cons (ps_set (i := 3) sc_l_next.nd rfl (Or.inl rfl) (pe_ix (ix_listK K rfl) (pe_ix (ix_listK K rfl) (pv 0) pe_int (fun _ _ => rfl)) (pe_op op_sub (pe_ix (ix_listK K rfl) (pv 0) pe_int (fun _ _ => rfl)) pe_int) (fun _ _ => rfl))) (pss_cons (ps_asg (pe_ifExp (pt_cmpR op_ge (pv 3) (pe_op op_pow pe_int pe_int) (nomark _)) (pe_op op_fdivW (pv 3) (pv 1)) pe_int) (pg_sub (pv 0) pe_int set_list)) (pss_one (ps_ret (pe_op op_mod (pv 3) (pv 1)))))) pss_nil) (pss_cons (ps_asg (pe_op op_mod (pe_op op_mul (pe_ix (ix_listK K rfl) (pv 0) pe_int (fun _ _ => rfl)) pe_int) pe_int) (pg_sub (pv 0) pe_int set_list)) (pss_one (ps_ret (pe_op op_mod (pe_op op_fdivW (pe_ix (ix_listK K rfl) (pv 0) pe_int (fun _ _ => rfl)) pe_int) (pv 1)))))))), ?_⟩
    have hn2 : CDivW r n := wide_div (b := 40) n0 (by omega) (by decide) (by decide)
    refine ⟨_, rfl, d, _, _, _, rfl, rfl, SqL.of hd, atI_nat (j := 3) rfl, _, _, rfl, rfl, _, rfl, ?_⟩
    refine ite2 (fun _ => ?_) (fun _ => ?_)
    · refine ⟨_, rfl, d, _, _, _, rfl, rfl, SqL.of hd, atI_nat (j := 3) rfl, _, rfl, _, _, rfl, rfl, n0, ?_⟩
      refine ⟨_, rfl, d, _, _, _, rfl, rfl, SqL.of hd, atI_nat (j := 3) rfl, _, rfl, _, _, rfl, rfl, hn2, _, rfl, d, _, 3, 3, rfl, rfl, hd, rfl, ?_⟩
      exact ⟨_, rfl, k _ i m _ (Int.emod_nonneg _ (by omega)) (Int.emod_lt_of_pos _ n0) i0⟩
    · refine ⟨_, rfl, d, _, _, _, rfl, rfl, SqL.of hd, atI_nat (j := 1) rfl, _, _, rfl, rfl, _, rfl, d, _, 1, 1, rfl, rfl, hd, rfl, ?_⟩
      have hd1 : upd H d (.lst ((diceL a i m r).set 1 (V.int (i + 1)))) d = some (.lst (diceL a (i + 1) m r)) := upd_same
      have hs1 := sq_upd (zs := (diceL a i m r).set 1 (V.int (i + 1))) hs hd nda
      refine ⟨_, rfl, d, _, _, _, rfl, rfl, SqL.of hd1, atI_nat (j := 1) rfl, _, rfl, d, _, _, _, rfl, rfl, SqL.of hd1, atI_nat (j := 0) rfl, a, _, rfl, .inl hs1, _, _, rfl, rfl, _, rfl, ?_⟩
      rw [List.length_map]
      refine ite2 (fun hle => ?_) (fun _ => ?_)
      · have hle : i + 1 ≤ (ns.length : Int) := of_decide_eq_true hle
        have e1 : i + 1 - 1 = ((i.toNat : Nat) : Int) := by omega
        refine ⟨_, rfl, d, _, _, _, rfl, rfl, SqL.of hd1, atI_nat (j := 0) rfl, _, rfl, d, _, _, _, rfl, rfl, SqL.of hd1, atI_nat (j := 1) rfl, _, _, rfl, rfl, a, _, i + 1 - 1, V.int (ns.getD i.toNat 0), rfl, rfl, hs1, by rw [e1]; exact atI_int (by omega), ?_⟩
        generalize ns.getD i.toNat 0 = c
        have hn3 : CDivW c n := wide_div (b := 40) n0 (by omega) (by decide) (by decide)
        refine ⟨_, rfl, _, _, rfl, rfl, ⟨by decide, by decide, by decide⟩, _, _, rfl, rfl, _, rfl, ?_⟩
        refine ite2 (fun _ => ?_) (fun _ => ?_)
        · refine ⟨_, rfl, _, rfl, _, _, rfl, rfl, hn3, _, rfl, d, _, 3, 3, rfl, rfl, hd1, rfl, _, rfl, _, rfl, _, _, rfl, rfl, n0, ?_⟩
          rw [upd_upd]
          exact k _ (i + 1) m _ (Int.emod_nonneg _ (by omega)) (Int.emod_lt_of_pos _ n0) (by omega)
        · refine ⟨_, rfl, d, _, 3, 3, rfl, rfl, hd1, rfl, _, rfl, _, rfl, _, _, rfl, rfl, n0, ?_⟩
          rw [upd_upd]
          exact k _ (i + 1) m _ (Int.emod_nonneg _ (by omega)) (Int.emod_lt_of_pos _ n0) (by omega)
      · refine ⟨_, rfl, d, _, _, _, rfl, rfl, SqL.of hd1, atI_nat (j := 2) rfl, _, _, rfl, rfl, .inr ⟨by decide, by decide⟩, _, _, rfl, rfl, by show (0 : Int) < 2147483647; decide, _, rfl, d, _, 2, 2, rfl, rfl, hd1, rfl, ?_⟩
        rw [upd_upd]
        have h7 : ∀ z : Int, CDivW z 7 := fun z => wide_div (b := 40) (by decide) (by decide) (by decide) (by decide)
        refine ⟨_, rfl, d, _, _, V.int (m * 48271 % 2147483647), rfl, rfl, SqL.of upd_same, atI_nat (j := 2) rfl, _, _, rfl, rfl, h7 _, _, rfl, _, _, rfl, rfl, n0, ?_⟩
        exact k _ (i + 1) _ r (Int.emod_nonneg _ (by omega)) (Int.emod_lt_of_pos _ n0) (by omega)
/-- one draw -/
theorem draw {H : Hp} {d a : Addr} {ns : List Int} (D : Dice H d a) (hs : SqL K H a (ns.map V.int)) {i m r : Int} (i0 : 0 ≤ i) : Dice (upd H d (.lst (diceL a i m r))) d a ∧ SqL K (upd H d (.lst (diceL a i m r))) a (ns.map V.int) ∧ Kp d H (upd H d (.lst (diceL a i m r))) := by
  obtain ⟨n, _, _, _, _, hd⟩ := D
  exact ⟨⟨n, i, m, r, i0, upd_same⟩, sq_upd hs hd n, fun b o z e => by rw [upd_ne z]; exact e⟩
theorem Dice.scr {K : PySem.W.Frag} {H H' : Hp} {d a : Addr} {ns : List Int} (D : Dice H d a) (h : SqL K H a (ns.map V.int)) (k : Kp d H H') : SqL K H' a (ns.map V.int) := k.sq h D.1.symm
theorem dice_new {H : Hp} {d a p : Addr} {o : HO} (D : Dice H d a) (h : H p = none) : Dice (upd H p o) d a := by
  obtain ⟨n, i, m, r, i0, hd⟩ := D
  exact ⟨n, i, m, r, i0, (upd_ne (ne_of_none hd h)).trans hd⟩
theorem dice_there {H : Hp} {d a p : Addr} (D : Dice H d a) (h : H p = none) : p ≠ d := by
  obtain ⟨_, _, _, _, _, hd⟩ := D
  exact fun z => by rw [z, hd] at h; cases h
/-- new since H -/
theorem isnew {H Hk : Hp} {d a t : Addr} (k : Kp d H Hk) (D : Dice Hk d a) (n : Hk t = none) : H t = none := by
  cases e : H t with
  | none => rfl
  | some o => rw [k t o (dice_there D n) e] at n; cases n
theorem ok_l_number (T : Txt K mg) : FnOk P w K mg base CX0 2 (aG K "_law_number") (fdOf K (aG K "_law_number")) ["_law_d"] (spNumber K) := by
  refine T.F_l_number.ok sc_l_number (fun vs H Q E h => ?_) (fun cdv A outer s H vs Q E hr h => ?_)
  · obtain ⟨_, _, _, rfl, _⟩ := h; rfl
  · obtain ⟨d, a, ns, rfl, D, hs, k⟩ := h
    refine ⟨_, PSs.nox (pss_one (ps_ret (pe_ix (ix_listK K rfl) (pe_lst (pa_cons (pe_call (ok_l_next T) (hr.mono (by decide)) rfl T.g__law_next T.F_l_next.kp T.b_l_next .nil pass0 (pa_cons (pv 0) (pa_cons pe_int pa_nil))) (pa_cons (pe_op op_sub (pe_call (ok_l_next T) (hr.mono (by decide)) rfl T.g__law_next T.F_l_next.kp T.b_l_next .nil pass0 (pa_cons (pv 0) (pa_cons pe_int pa_nil))) pe_int) (pa_cons (pe_call (ok_l_next T) (hr.mono (by decide)) rfl T.g__law_next T.F_l_next.kp T.b_l_next .nil pass0 (pa_cons (pv 0) (pa_cons pe_int pa_nil))) pa_nil)))) (pe_call (ok_l_next T) (hr.mono (by decide)) rfl T.g__law_next T.F_l_next.kp T.b_l_next .nil pass0 (pa_cons (pv 0) (pa_cons pe_int pa_nil))) (fun _ _ => rfl)))), ?_⟩
    refine ⟨_, rfl, d, a, 4, ns, rfl, D, hs, ⟨by decide, by decide⟩, fun v1 i1 m1 r1 a1 b1 c1 => ?_⟩
    obtain ⟨D1, hs1, k1⟩ := draw D hs (m := m1) (r := r1) c1
    refine ⟨_, rfl, d, a, 2000, ns, rfl, D1, hs1, ⟨by decide, by decide⟩, fun v2 i2 m2 r2 a2 b2 c2 => ?_⟩
    obtain ⟨D2, hs2, k2⟩ := draw D1 hs1 (m := m2) (r := r2) c2
    refine ⟨_, _, rfl, rfl, _, rfl, d, a, 3, ns, rfl, D2, hs2, ⟨by decide, by decide⟩, fun v3 i3 m3 r3 a3 b3 c3 => ?_⟩
    obtain ⟨D3, hs3, k3⟩ := draw D2 hs2 (m := m3) (r := r3) c3
    refine ⟨by show 3 ≤ sizeLine; exact sz (by omega), fun l nl => ?_⟩
    have D4 := dice_new (o := .lst [V.int v1, V.int (v2 - 1000), V.int v3]) D3 nl
    have hs4 := (same_new nl (.lst [V.int v1, V.int (v2 - 1000), V.int v3])).seq hs3
    have nld := dice_there D3 nl
    refine ⟨_, rfl, d, a, 3, ns, rfl, D4, hs4, ⟨by decide, by decide⟩, fun v5 i5 m5 r5 a5 b5 c5 => ?_⟩
    obtain ⟨D5, hs5, k5⟩ := draw D4 hs4 (m := m5) (r := r5) c5
    have hl5 : upd (upd (upd (upd (upd H d (.lst (diceL a i1 m1 r1))) d (.lst (diceL a i2 m2 r2))) d (.lst (diceL a i3 m3 r3))) l (.lst [V.int v1, V.int (v2 - 1000), V.int v3])) d (.lst (diceL a i5 m5 r5)) l = some (.lst [V.int v1, V.int (v2 - 1000), V.int v3]) := (upd_ne nld).trans upd_same
    have KK := (((k1.trans k2).trans k3).trans (Kp.of (same_new nl (.lst [V.int v1, V.int (v2 - 1000), V.int v3])))).trans k5
    have h5 : v5 = 0 ∨ v5 = 1 ∨ v5 = 2 := by omega
    rcases h5 with e | e | e
    · subst e
      exact ⟨l, _, 0, V.int v1, rfl, rfl, SqL.of hl5, atI_nat (j := 0) rfl, k v1 _ (by omega) (by omega) D5 KK⟩
    · subst e
      exact ⟨l, _, 1, V.int (v2 - 1000), rfl, rfl, SqL.of hl5, atI_nat (j := 1) rfl, k _ _ (by omega) (by omega) D5 KK⟩
    · subst e
      exact ⟨l, _, 2, V.int v3, rfl, rfl, SqL.of hl5, atI_nat (j := 2) rfl, k _ _ (by omega) (by omega) D5 KK⟩
theorem ok_l_deed (T : Txt K mg) : FnOk P w K mg base CX0 3 (aG K "_law_deed") (fdOf K (aG K "_law_deed")) ["_law_d", "_law_sizes"] (spDeed K) := by
  refine T.F_l_deed.ok sc_l_deed (fun vs H Q E h => ?_) (fun cdv A outer s H vs Q E hr h => ?_)
  · obtain ⟨_, _, _, _, _, _, _, rfl, _⟩ := h; rfl
  · obtain ⟨d, a, t, ns, hands, deep, places, rfl, D, hs, ht, hh, hde, hpl, k⟩ := h
    refine ⟨_, PSs.nox (pss_cons (ps_asg (pv 1) (pg_tup rfl (pgs_cons (pg_name (i := 2) sc_l_deed.nd rfl (Or.inl rfl)) (pgs_cons (pg_name (i := 3) sc_l_deed.nd rfl (Or.inl rfl)) (pgs_cons (pg_name (i := 4) sc_l_deed.nd rfl (Or.inl rfl)) pgs_nil))))) (pss_cons (ps_set (i := 5) sc_l_deed.nd rfl (Or.inl rfl) (pe_call (ok_l_next T) (hr.mono (by decide)) rfl T.g__law_next T.F_l_next.kp T.b_l_next .nil pass0 (pa_cons (pv 0) (pa_cons (pv 2) pa_nil)))) (pss_cons (ps_set (i := 6) sc_l_deed.nd rfl (Or.inl rfl) (pe_call (ok_l_next T) (hr.mono (by decide)) rfl T.g__law_next T.F_l_next.kp T.b_l_next .nil pass0 (pa_cons (pv 0) (pa_cons pe_int pa_nil)))) (pss_cons (ps_if (pt_cmpR op_lt (pv 6) pe_int (nomark _)) (pss_one (ps_ret (pe_tup (pa_cons pe_str (pa_cons (pv 5) (pa_cons (pe_lc (own := [("_law_k", 7)]) (g := gName 7) rfl sc_l_deed.nd (pi_range1 rfl T.n_range (pa_cons (pe_call (ok_l_next T) (hr.mono (by decide)) rfl T.g__law_next T.F_l_next.kp T.b_l_next .nil pass0 (pa_cons (pv 0) (pa_cons pe_int pa_nil))) pa_nil)) (blkOk_by (own := [("_law_k", 7)]) (N := ["_law_d", "_law_sizes", "_law_hands", "_law_deep_here", "_law_places", "_law_hand", "_law_kind", "_law_k"]) (sc := (defScope s_l_deed)) (by decide +kernel)) (fun _ _ _ _ _ => pg_name (i := 7) sc_l_deed.nd rfl (Or.inl rfl)) (fun _ _ _ _ _ => by exact pts_nil) (fun _ _ _ _ _ => by exact (pe_call (ok_l_number T) (hr.mono (by decide)) rfl T.g__law_number T.F_l_number.kp T.b_l_number .nil pass0 (pa_cons (pv 0) pa_nil)))) pa_nil)))))) pss_nil) (pss_cons (ps_if (pt_cmpR op_lt (pv 6) pe_int (nomark _)) (pss_one (ps_ret (pe_tup (pa_cons pe_str (pa_cons (pv 5) pa_nil))))) pss_nil) (pss_cons (ps_if (pt_cmpR op_lt (pv 6) pe_int (nomark _)) (pss_one (ps_ret (pe_tup (pa_cons pe_str (pa_cons (pv 5) (pa_cons (pe_call (ok_l_next T) (hr.mono (by decide)) rfl T.g__law_next T.F_l_next.kp T.b_l_next .nil pass0 (pa_cons (pv 0) (pa_cons (pe_op op_add (pv 3) pe_int) pa_nil))) (pa_cons (pe_call (ok_l_next T) (hr.mono (by decide)) rfl T.g__law_next T.F_l_next.kp T.b_l_next .nil pass0 (pa_cons (pv 0) (pa_cons pe_int pa_nil))) (pa_cons (pe_call (ok_l_number T) (hr.mono (by decide)) rfl T.g__law_number T.F_l_number.kp T.b_l_number .nil pass0 (pa_cons (pv 0) pa_nil)) pa_nil)))))))) pss_nil) (pss_cons (ps_if (pt_cmpR op_lt (pv 6) pe_int (nomark _)) (pss_one (ps_ret (pe_tup (pa_cons pe_str (pa_cons (pv 5) (pa_cons (pe_call (ok_l_next T) (hr.mono (by decide)) rfl T.g__law_next T.F_l_next.kp T.b_l_next .nil pass0 (pa_cons (pv 0) (pa_cons (pv 2) pa_nil))) pa_nil)))))) pss_nil) (pss_cons (ps_if (pt_cmpR op_eq (pv 6) pe_int (nomark _)) (pss_one (ps_ret (pe_tup (pa_cons pe_str (pa_cons (pv 5) pa_nil))))) pss_nil) (pss_one (ps_ret (pe_ix (ix_listK K rfl) (pe_lst (pa_cons (pe_tup (pa_cons pe_str (pa_cons (pv 5) (pa_cons (pe_call (ok_l_next T) (hr.mono (by decide)) rfl T.g__law_next T.F_l_next.kp T.b_l_next .nil pass0 (pa_cons (pv 0) (pa_cons (pe_op op_add (pv 4) pe_int) pa_nil))) pa_nil)))) (pa_cons (pe_tup (pa_cons pe_str (pa_cons (pe_call (ok_l_next T) (hr.mono (by decide)) rfl T.g__law_next T.F_l_next.kp T.b_l_next .nil pass0 (pa_cons (pv 0) (pa_cons (pe_op op_add (pv 4) pe_int) pa_nil))) pa_nil))) pa_nil))) (pe_op op_sub (pv 6) pe_int) (fun _ _ => rfl)))))))))))), ?_⟩
    refine ⟨_, rfl, t, _, rfl, SqT.of ht, rfl, _, _, rfl, _, _, rfl, _, _, rfl, rfl, ?_⟩
    refine ⟨_, rfl, _, rfl, d, a, hands, ns, rfl, D, hs, ⟨by omega, by omega⟩, fun hd i1 m1 r1 a1 b1 c1 => ?_⟩
    obtain ⟨D1, hs1, k1⟩ := draw D hs (m := m1) (r := r1) c1
    refine ⟨_, rfl, d, a, 14, ns, rfl, D1, hs1, ⟨by decide, by decide⟩, fun kd i2 m2 r2 a2 b2 c2 => ?_⟩
    obtain ⟨D2, hs2, k2⟩ := draw D1 hs1 (m := m2) (r := r2) c2
    have k12 := k1.trans k2
    generalize upd (upd H d (.lst (diceL a i1 m1 r1))) d (.lst (diceL a i2 m2 r2)) = H2 at D2 hs2 k12
    clear k1 k2 D1 hs1
    refine ⟨_, rfl, _, _, rfl, rfl, _, rfl, ?_⟩
    refine ite2 (fun _ => ?_) (fun g4 => ?_)
    · -- call
      refine ⟨_, rfl, _, rfl, d, a, 4, ns, rfl, D2, hs2, ⟨by decide, by decide⟩, fun n i3 m3 r3 a3 b3 c3 => ?_⟩
      obtain ⟨D3, hs3, k3⟩ := draw D2 hs2 (m := m3) (r := r3) c3
      refine ⟨n, rfl, by omega, by omega, fun C nC => ?_⟩
      have D4 := dice_new (o := .lst []) D3 nC
      have nCd := dice_there D3 nC
      have KC := (k12.trans k3).trans (Kp.of (same_new nC (.lst [])))
      have D0 := D
      have nCH : H C = none := by
        cases e : H C with
        | none => rfl
        | some o => rw [(k12.trans k3) C o nCd e] at nC; cases nC
      have up : ∀ {H' : Hp}, Kp d H H' → SqL K H' a (ns.map V.int) := fun k => D0.scr hs k
      refine lc_range (lo := 0) (n := n.toNat) (fun i H' => ∃ vs : List Int, H' C = some (.lst (vs.map V.int)) ∧ vs.length = i ∧ (∀ v ∈ vs, -1000 ≤ v ∧ v ≤ 1000) ∧ Dice H' d a ∧ Kp d H H') ⟨[], upd_same, rfl, by simp, D4, KC⟩ ?_ ?_
      · rintro i H' hi ⟨vs, h1, h2, h3, h4, h6⟩
        refine ⟨rfl, yesT rfl ?_⟩
        refine ⟨_, rfl, d, a, ns, rfl, h4, up h6, fun v H'' v1 v2 D5 K5 => ?_⟩
        have hC := K5 C _ nCd h1
        refine ⟨_, hC, szl (by rw [List.length_map]; omega), vs ++ [v], by rw [upd_same, List.map_append]; rfl, by rw [List.length_append, h2]; rfl, fun z hz => ?_, ?_, ?_⟩
        · rcases List.mem_append.mp hz with q | q
          · exact h3 z q
          · have : z = v := by simpa using q
            rw [this]; exact ⟨v1, v2⟩
        · obtain ⟨n1, j, p, q, z1, z2⟩ := D5
          exact ⟨n1, j, p, q, z1, (upd_ne nCd.symm).trans z2⟩
        · intro b o z e
          have := K5 b o z (h6 b o z e)
          rw [upd_ne (ne_of_none e nCH)]; exact this
      · rintro H' ⟨vs, h1, h2, h3, h4, h6⟩
        refine ⟨by show 3 ≤ sizeLine; exact sz (by omega), fun t' nt => ?_⟩
        exact k t' (.call hd vs) _ ⟨⟨a1, b1⟩, by omega, h3⟩ ⟨C, fresh_of (isnew h6 h4 nt) upd_same, fresh_of nCH ((upd_ne (ne_of_none h1 nt)).trans h1)⟩ (dice_new h4 nt) (h6.trans (Kp.of (same_new nt _)))
    · refine ⟨_, rfl, _, _, rfl, rfl, _, rfl, ?_⟩
      refine ite2 (fun _ => ?_) (fun g6 => ?_)
      · -- back
        refine ⟨_, rfl, by show 2 ≤ sizeLine; exact sz (by omega), fun t' nt => ?_⟩
        exact k t' (.back hd) _ ⟨a1, b1⟩ (fresh_of (isnew k12 D2 nt) upd_same) (dice_new D2 nt) (k12.trans (Kp.of (same_new nt _)))
      · refine ⟨_, rfl, _, _, rfl, rfl, _, rfl, ?_⟩
        refine ite2 (fun _ => ?_) (fun g9 => ?_)
        · -- put
          refine ⟨_, rfl, _, rfl, _, rfl, _, _, rfl, rfl, d, a, deep + 1, ns, rfl, D2, hs2, ⟨by omega, by omega⟩, fun v3 i3 m3 r3 a3 b3 c3 => ?_⟩
          obtain ⟨D3, hs3, k3⟩ := draw D2 hs2 (m := m3) (r := r3) c3
          refine ⟨_, rfl, d, a, 3, ns, rfl, D3, hs3, ⟨by decide, by decide⟩, fun v4 i4 m4 r4 a4 b4 c4 => ?_⟩
          obtain ⟨D4, hs4, k4⟩ := draw D3 hs3 (m := m4) (r := r4) c4
          refine ⟨_, rfl, d, a, ns, rfl, D4, hs4, fun v H' v1 v2 D5 K5 => ?_⟩
          refine ⟨by show 5 ≤ sizeLine; exact sz (by omega), fun t' nt => ?_⟩
          exact k t' (.put hd v3 v4 v) _ ⟨⟨a1, b1⟩, ⟨a3, by omega⟩, ⟨a4, b4⟩, v1, v2⟩ (fresh_of (isnew (((k12.trans k3).trans k4).trans K5) D5 nt) upd_same) (dice_new D5 nt) ((((k12.trans k3).trans k4).trans K5).trans (Kp.of (same_new nt _)))
        · refine ⟨_, rfl, _, _, rfl, rfl, _, rfl, ?_⟩
          refine ite2 (fun _ => ?_) (fun g11 => ?_)
          · -- branch
            refine ⟨_, rfl, _, rfl, _, rfl, d, a, hands, ns, rfl, D2, hs2, ⟨by omega, by omega⟩, fun v3 i3 m3 r3 a3 b3 c3 => ?_⟩
            obtain ⟨D3, hs3, k3⟩ := draw D2 hs2 (m := m3) (r := r3) c3
            refine ⟨by show 3 ≤ sizeLine; exact sz (by omega), fun t' nt => ?_⟩
            exact k t' (.branch hd v3) _ ⟨⟨a1, b1⟩, a3, b3⟩ (fresh_of (isnew (k12.trans k3) D3 nt) upd_same) (dice_new D3 nt) ((k12.trans k3).trans (Kp.of (same_new nt _)))
          · refine ⟨_, rfl, rfl, _, rfl, ?_⟩
            refine ite2 (fun _ => ?_) (fun g12 => ?_)
            · -- keep
              refine ⟨_, rfl, by show 2 ≤ sizeLine; exact sz (by omega), fun t' nt => ?_⟩
              exact k t' (.keep hd) _ ⟨a1, b1⟩ (fresh_of (isnew k12 D2 nt) upd_same) (dice_new D2 nt) (k12.trans (Kp.of (same_new nt _)))
            · -- leap, forget
              have hk : kd = 12 ∨ kd = 13 := by
                have e11 : kd ≠ 11 := fun z => g12 (by rw [z]; rfl)
                have e10 : ¬ kd < 11 := fun z => g11 (decide_eq_true z)
                omega
              refine ⟨_, rfl, _, rfl, _, rfl, _, _, rfl, rfl, d, a, places + 1, ns, rfl, D2, hs2, ⟨by omega, by omega⟩, fun v3 i3 m3 r3 a3 b3 c3 => ?_⟩
              obtain ⟨D3, hs3, k3⟩ := draw D2 hs2 (m := m3) (r := r3) c3
              refine ⟨by show 3 ≤ sizeLine; exact sz (by omega), fun t1 n1 => ?_⟩
              have D4 := dice_new (o := .tup [V.str "leap", V.int hd, V.int v3]) D3 n1
              have S4 := same_new n1 (.tup [V.str "leap", V.int hd, V.int v3])
              refine ⟨_, rfl, _, rfl, _, _, rfl, rfl, d, a, places + 1, ns, rfl, D4, S4.seq hs3, ⟨by omega, by omega⟩, fun v5 i5 m5 r5 a5 b5 c5 => ?_⟩
              obtain ⟨D5, hs5, k5⟩ := draw D4 (S4.seq hs3) (m := m5) (r := r5) c5
              have n1d := dice_there D3 n1
              have ht1 : upd (upd (upd H2 d (.lst (diceL a i3 m3 r3))) t1 (.tup [V.str "leap", V.int hd, V.int v3])) d (.lst (diceL a i5 m5 r5)) t1 = some (.tup [V.str "leap", V.int hd, V.int v3]) := (upd_ne n1d).trans upd_same
              refine ⟨by show 2 ≤ sizeLine; exact sz (by omega), fun t2 n2 => ?_⟩
              have n12 : t1 ≠ t2 := ne_of_none ht1 n2
              refine ⟨by show 2 ≤ sizeLine; exact sz (by omega), fun l nl => ?_⟩
              have KK := ((((k12.trans k3).trans (Kp.of S4)).trans k5).trans (Kp.of (same_new n2 (.tup [V.str "forget", V.int v5])))).trans (Kp.of (same_new nl (.lst [V.ref t1, V.ref t2])))
              have D6 := dice_new (o := .lst [V.ref t1, V.ref t2]) (dice_new (o := .tup [V.str "forget", V.int v5]) D5 n2) nl
              refine ⟨_, rfl, _, _, rfl, rfl, ?_⟩
              rcases hk with e | e
              · subst e
                exact ⟨l, _, 0, V.ref t1, rfl, rfl, SqL.of upd_same, atI_nat (j := 0) rfl, k t1 (.leap hd v3) _ ⟨⟨a1, b1⟩, a3, by omega⟩ (fresh_of (isnew (k12.trans k3) D3 n1) <| by
                  rw [upd_ne (ne_of_none ((upd_ne n12).trans ht1) nl), upd_ne n12]; exact ht1) D6 KK⟩
              · subst e
                exact ⟨l, _, 1, V.ref t2, rfl, rfl, SqL.of upd_same, atI_nat (j := 1) rfl, k t2 (.forget v5) _ ⟨a5, by omega⟩ (fresh_of (isnew (((k12.trans k3).trans (Kp.of S4)).trans k5) D5 n2) <| by
                  rw [upd_ne (ne_of_none upd_same nl), upd_same]) D6 KK⟩
end
end Sk
end
section
/-! SwVw: the views. -/
namespace Sk
open PySem PySem.Spec PyProof.Rows L2 SW
/-! ### what views tell, plain -/
def addU (a : List Int) (r : Int) : List Int := if r ∈ a then a else a ++ [r]
/-- the rooms of some piles, each once -/
def heldL (fs : Fs) (ts : List (Option Int)) : List Int := ts.foldl (fun a t => (path fs t).foldl addU a) []
/-- the first rooms that nobody else needs -/
def aloneL (fs : Fs) (l : List Int) : List Int := l.takeWhile fun r => decide (nd fs r ≤ 1)
theorem addU_len (a : List Int) (r : Int) : (addU a r).length ≤ a.length + 1 := by
  unfold addU; split
  · omega
  · rw [List.length_append]; simp
theorem addUs_len : ∀ (l a : List Int), (l.foldl addU a).length ≤ a.length + l.length
  | [], a => by simp
  | r :: l, a => by
    have h1 := addUs_len l (addU a r)
    have h2 := addU_len a r
    rw [List.foldl_cons, List.length_cons]; omega
theorem take_snocC {α : Type} {l : List α} {i : Nat} {r : α} (h : l[i]? = some r) : l.take (i + 1) = l.take i ++ [r] := by
  rw [List.take_add_one, h]; rfl
theorem paired_snoc {α β : Type} {F : α → β → Prop} {xs : List α} {ys : List β} (h : Paired F xs ys) {a : α} {b : β} (r : F a b) : Paired F (xs ++ [a]) (ys ++ [b]) := by
  induction h with
  | nil => exact .cons r .nil
  | cons r0 _ ih => exact .cons r0 ih
/-! ### dict(pairs) -/
def mkG (g : Fr → V) (ts : List CRow) : List (Key × V) := ts.map fun t => (Sum.inl t.2.2.1, g t.2.2.2)
theorem valV_out : ∀ {l : List (Key × V)} {k : Key}, k ∉ l.map (·.1) → valV l k = none
  | [], _, _ => rfl
  | p :: l, k, h => by
    have h1 : ¬ p.1 = k := fun z => h (by rw [List.map_cons]; exact z ▸ List.mem_cons_self ..)
    rw [valV_neg h1]
    exact valV_out fun z => h (by rw [List.map_cons]; exact List.mem_cons_of_mem _ z)
theorem valV_in : ∀ {l : List (Key × V)} {k : Key} {v : V}, (l.map (·.1)).Nodup → (k, v) ∈ l → valV l k = some v
  | [], _, _, _, h => by simp at h
  | p :: l, k, v, nd, h => by
    rw [List.map_cons] at nd
    obtain ⟨n1, n2⟩ := List.nodup_cons.mp nd
    rcases List.mem_cons.mp h with z | z
    · subst z; exact valV_pos rfl
    · have h1 : ¬ p.1 = k := fun q => n1 (List.mem_map.mpr ⟨_, z, q.symm⟩)
      rw [valV_neg h1]; exact valV_in n2 z
theorem merge_nodup : ∀ (l acc : List (Key × V)), ((acc ++ l).map (·.1)).Nodup → mergeK acc l = acc ++ l
  | [], acc, _ => by rw [List.append_nil]; rfl
  | p :: l, acc, nd => by
    have h1 : p.1 ∉ acc.map (·.1) := fun z => by
      rw [List.map_append, List.map_cons, List.nodup_append] at nd
      exact nd.2.2 _ z _ (List.mem_cons_self ..) rfl
    have e : putK acc p.1 p.2 = acc ++ [p] := putK_new _ (valV_out h1)
    show mergeK (putK acc p.1 p.2) l = _
    rw [e, merge_nodup l (acc ++ [p]) (by rw [List.append_assoc]; exact nd), List.append_assoc]; rfl
theorem rows_get {W : Wd} {ts : List CRow} (F : WFW W) (R : Rows W ts) (g : Fr → V) {r : Int} {f : Fr} (h : lk W.frames r = some f) : valV (mergeK [] (mkG g ts)) (Sum.inl r) = some (g f) := by
  obtain ⟨h1, _, h3⟩ := R
  have nd1 : (ts.map fun t => t.2.2.1).Nodup := h1.nodup_iff.mpr F.wf.nd
  have nd2 : ((mkG g ts).map (·.1)).Nodup := by
    have : (mkG g ts).map (·.1) = (ts.map fun t => t.2.2.1).map Sum.inl := by unfold mkG; rw [List.map_map, List.map_map]; rfl
    rw [this]
    exact List.Pairwise.map Sum.inl (fun a b ne z => ne (Sum.inl.inj z)) nd1
  rw [merge_nodup _ [] (by simpa using nd2), List.nil_append]
  have hm : r ∈ ts.map fun t => t.2.2.1 := h1.symm.subset (mem_ks.mpr ⟨f, h⟩)
  obtain ⟨t, ht, e⟩ := List.mem_map.mp hm
  have := h3 t ht
  rw [e, h] at this
  refine valV_in nd2 (List.mem_map.mpr ⟨t, ht, ?_⟩)
  rw [e, ← Option.some.inj this]
theorem rows_len {W : Wd} {ts : List CRow} (R : Rows W ts) : ts.length = W.frames.length := by
  have := R.1.length_eq
  rw [List.length_map] at this
  rw [this, ← len_ks]
def mkU (a : List Int) : List (Key × V) := a.map fun r => (Sum.inl r, V.bl true)
theorem putK_mkU (a : List Int) (r : Int) : putK (mkU a) (Sum.inl r) (.bl true) = mkU (addU a r) := by
  unfold addU
  by_cases h : r ∈ a
  · rw [if_pos h]
    have hv : valV (mkU a) (Sum.inl r) = some (.bl true) := by
      revert h
      induction a with
      | nil => intro h; simp at h
      | cons q l ih =>
        intro h
        by_cases z : q = r
        · subst z; exact valV_pos rfl
        · have : valV (mkU (q :: l)) (Sum.inl r) = valV (mkU l) (Sum.inl r) := valV_neg (p := (Sum.inl q, V.bl true)) (by simpa using z)
          rw [this]
          exact ih ((List.mem_cons.mp h).resolve_left fun w => z w.symm)
    unfold putK
    rw [valV_any, hv, if_pos (by rfl)]
    unfold mkU
    rw [List.map_map]
    refine List.map_congr_left fun q _ => ?_
    show (if Sum.inl q = Sum.inl r then _ else _) = _
    split
    · rename_i z; cases z; rfl
    · rfl
  · rw [if_neg h, putK_new _ ?_]
    · unfold mkU; rw [List.map_append]; rfl
    · refine valV_out ?_
      · intro z
        obtain ⟨p, hp, e⟩ := List.mem_map.mp z
        obtain ⟨q, hq, e2⟩ := List.mem_map.mp hp
        subst e2
        cases e
        exact h hq
theorem heldL_snoc (fs : Fs) (ts : List (Option Int)) (t : Option Int) : heldL fs (ts ++ [t]) = (path fs t).foldl addU (heldL fs ts) := by
  unfold heldL; rw [List.foldl_append]; rfl
theorem heldL_len {fs : Fs} : ∀ {ts : List (Option Int)}, (∀ t ∈ ts, (path fs t).length ≤ 40) → (heldL fs ts).length ≤ 40 * ts.length := by
  intro ts
  have key : ∀ (ts : List (Option Int)) (a : List Int), (∀ t ∈ ts, (path fs t).length ≤ 40) → (ts.foldl (fun a t => (path fs t).foldl addU a) a).length ≤ a.length + 40 * ts.length := by
    intro ts
    induction ts with
    | nil => intro a _; simp
    | cons t ts ih =>
      intro a h
      have h1 := ih ((path fs t).foldl addU a) fun t ht => h t (List.mem_cons_of_mem _ ht)
      have h2 := addUs_len (path fs t) a
      have h3 := h t (List.mem_cons_self ..)
      rw [List.foldl_cons, List.length_cons]; omega
  intro h
  have := key ts [] h
  unfold heldL
  rw [List.length_nil] at this; omega
theorem tw_stop {p : Int → Bool} : ∀ {l : List Int} {j : Nat} {a : Int}, (∀ (i : Nat) (b : Int), i < j → l[i]? = some b → p b = true) → l[j]? = some a → p a = false → (l.takeWhile p).length = j
  | [], _, _, _, e, _ => by simp at e
  | b :: l, 0, a, h, e, f => by
    have : b = a := by simpa using e
    subst this
    rw [List.takeWhile_cons, f]; rfl
  | b :: l, j + 1, a, h, e, f => by
    rw [List.takeWhile_cons, h 0 b (by omega) rfl, if_pos rfl, List.length_cons]
    rw [tw_stop (l := l) (j := j) (fun i c hi hc => h (i + 1) c (by omega) (by simpa using hc)) (by simpa using e) f]
theorem tw_all {p : Int → Bool} : ∀ {l : List Int}, (∀ (i : Nat) (b : Int), l[i]? = some b → p b = true) → l.takeWhile p = l
  | [], _ => rfl
  | b :: l, h => by
    rw [List.takeWhile_cons, h 0 b rfl, if_pos rfl, tw_all fun i c hc => h (i + 1) c (by simpa using hc)]
theorem inV_ints (p : Int) : ∀ l : List Int, inV (.int p) (l.map V.int) = decide (p ∈ l) ∧ (l.map V.int).all flatV = true
  | [] => ⟨by simp [inV], rfl⟩
  | u :: l => by
    obtain ⟨h1, h2⟩ := inV_ints p l
    refine ⟨?_, ?_⟩
    · show (eqV (.int u) (.int p) || inV (.int p) (l.map V.int)) = _
      rw [h1]
      by_cases z : u = p
      · subst z; simp [eqV]
      · have z' : ¬ p = u := fun w => z w.symm
        simp [eqV, z, z']
    · show (flatV (.int u) && (l.map V.int).all flatV) = true
      rw [h2]; rfl
def spRoomsOf (K : PySem.W.Frag) : Sp := fun vs H Q _ => ∃ (A : Hp) (x : Ad) (W : Wd) (t : Option Int), vs = [.ref x.p, oV t] ∧ At K A H x W ∧ (∀ r, t = some r → ∃ f, lk W.frames r = some f) ∧ ∀ H' p, Same H H' → H p = none → H' p = some (.lst ((path W.frames t).map V.int)) → Q (.ref p) H'
def spTop (K : PySem.W.Frag) : Sp := fun vs H Q E => ∃ (A : Hp) (x : Ad) (W : Wd) (h : Int), vs = [.ref x.p, .int h] ∧ At K A H x W ∧ (hOk W h → Q (oV (top W h)) H) ∧ (¬ hOk W h → Ref K H E .hand)
def spHeld (K : PySem.W.Frag) : Sp := fun vs H Q E => ∃ (A : Hp) (x : Ad) (W : Wd) (a : Addr) (hs : List Int), vs = [.ref x.p, .ref a] ∧ At K A H x W ∧ SqL K H a (hs.map V.int) ∧ hs.length ≤ 1000 ∧ ((∀ h ∈ hs, hOk W h) → ∀ H', Same H H' → Q (.int ((heldL W.frames (hs.map (top W))).length : Int)) H') ∧ ((∃ h ∈ hs, ¬ hOk W h) → Ref K H E .hand)
def spAlone (K : PySem.W.Frag) : Sp := fun vs H Q E => ∃ (A : Hp) (x : Ad) (W : Wd) (h : Int), vs = [.ref x.p, .int h] ∧ At K A H x W ∧ (hOk W h → ∀ H', Same H H' → Q (.int ((aloneL W.frames (path W.frames (top W h))).length : Int)) H') ∧ (¬ hOk W h → Ref K H E .hand)
def spCommon (K : PySem.W.Frag) : Sp := fun vs H Q E => ∃ (A : Hp) (x : Ad) (W : Wd) (h k : Int), vs = [.ref x.p, .int h, .int k] ∧ At K A H x W ∧ (hOk W h → hOk W k → ∀ H', Same H H' → Q (.int (((path W.frames (top W h)).filter fun r => decide (r ∈ path W.frames (top W k))).length : Int)) H') ∧ (¬ (hOk W h ∧ hOk W k) → Ref K H E .hand)
def spUsed (K : PySem.W.Frag) : Sp := fun vs H Q _ => ∃ (A : Hp) (x : Ad) (W : Wd), vs = [.ref x.p] ∧ At K A H x W ∧ ∀ H', Same H H' → Q (.int (W.frames.length : Int)) H'
theorem At.same {K : PySem.W.Frag} {A H H' : Hp} {x : Ad} {W : Wd} (I : At K A H x W) (s : Same H H') : At K A H' x W := ⟨fun b o e => s b o (I.sub b o e), I.wa, I.wf⟩
section
variable {P : Program} {w : World} {K : PySem.W.Frag} {mg : Str → Option Value} {base : Heap}
theorem ok_top (T : Txt K mg) : FnOk P w K mg base (L2.CX P w) 2 (aG K "top") (fdOf K (aG K "top")) ["wood", "hand"] (spTop K) := by
  refine T.F_top.ok (CX := L2.CX P w) sc_top (fun vs H Q E h => ?_) (fun cdv A outer s H vs Q E hr h => ?_)
  · obtain ⟨_, _, _, _, rfl, _⟩ := h; rfl
  · obtain ⟨A, x, W, h, rfl, I, ky, kn⟩ := h
    refine ⟨_, (pss_cons (ps_expr (pe_meth (pv 0) T.cl_Wood T.m_need_hand (ok_Wood_need_hand T) (hr.mono (by decide)) T.b_Wood_need_hand .nil (passes_call (takes_of rfl rfl rfl rfl) (fun _ _ _ _ h => h)) (pa_cons (pv 1) pa_nil))) (pss_one (ps_ret (pe_ix (ix_listK K rfl) (pe_fldK K rfl (pv 0) rfl) (pv 1) (fun _ _ => rfl))))), ?_⟩
    have hp := I.sub _ _ I.wa.ins
    refine ⟨_, rfl, x.p, _, _, rfl, hp, wf_no (by decide +kernel), _, rfl, A, x, W, h, rfl, I.sub, I.wa, fun hk => ?_, fun hk => kn hk _ (Same.refl _)⟩
    exact ⟨_, rfl, x.p, _, _, _, _, rfl, hp, T.cl_Wood, T.a_tops, wf_tops, _, rfl, x.ta, _, _, _, rfl, rfl, SqL.of (I.sub _ _ I.wa.tps), atI_tops hk, ky hk⟩
theorem ok_rooms_of (T : Txt K mg) : FnOk P w K mg base CX0 2 (aG K "rooms_of") (fdOf K (aG K "rooms_of")) ["wood", "room"] (spRoomsOf K) := by
  refine T.F_rooms_of.ok sc_rooms_of (fun vs H Q E h => ?_) (fun cdv A outer s H vs Q E hr h => ?_)
  · obtain ⟨_, _, _, _, rfl, _⟩ := h; rfl
  · obtain ⟨A, x, W, t, rfl, I, ht, k⟩ := h
    refine ⟨_, PSs.nox (pss_cons (ps_set (i := 2) sc_rooms_of.nd rfl (Or.inl rfl) (pe_callTy (call_dictP rfl) rfl T.n_dict (by decide +kernel) (pa_cons (pe_lc (own := [("call", 4)]) (g := gName 4) rfl sc_rooms_of.nd (pi_listK K rfl (pe_meth0 (pv 0) T.cl_Wood T.m_calls (ok_Wood_calls T) (hr.mono (by decide)) T.b_Wood_calls .nil pass0)) (blkOk_by (own := [("call", 4)]) (N := ["wood", "room", "below", "found", "call"]) (sc := (defScope s_rooms_of)) (by decide +kernel)) (fun _ _ _ _ _ => pg_name (i := 4) sc_rooms_of.nd rfl (Or.inl rfl)) (fun _ _ _ _ _ => by exact pts_nil) (fun _ _ _ _ _ => by exact (pe_tup (pa_cons (pe_ix (ix_tupK K rfl) (pv 4) pe_int (fun _ _ => rfl)) (pa_cons (pe_ix (ix_tupK K rfl) (pv 4) pe_int (fun _ _ => rfl)) pa_nil))))) pa_nil))) (pss_cons (ps_set (i := 3) sc_rooms_of.nd rfl (Or.inl rfl) (pe_lst pa_nil)) (pss_cons (ps_while PassesOwn.never (pt_cmpR op_notN1 (pv 1) pe_non (nomark _)) (pss_cons (ps_expr (pe_bm PySem.F.plainAttrs_list PySem.F.slot_list_append PySem.F.type_list_append mt_append (pv 3) (pa_cons (pv 1) pa_nil))) (pss_one (ps_set (i := 1) sc_rooms_of.nd rfl (Or.inl rfl) (pe_dget (hu_of hr) (pv 2) (pv 1) (fun _ _ => rfl)))))) (pss_one (ps_ret (pv 3)))))), ?_⟩
    have hp := I.sub _ _ I.wa.ins
    have F := I.wf
    have hpath := F.wf.path t ht
    generalize el : path W.frames t = l at hpath k
    have hlen : l.length ≤ 40 := Nat.le_trans hpath.len F.len
    refine ⟨_, rfl, x.p, _, _, rfl, hp, wf_no (by decide +kernel), A, x, W, rfl, I, fun H1 c ts C R => ?_⟩
    have tl : ts.length ≤ 40 := by rw [rows_len R]; exact F.len
    refine ⟨c, rfl, ⟨_, SqL.of C.lst⟩, fun D nD => ?_⟩
    refine lc_list (K := K) (a := c) (xs := ts.map fun t => V.ref t.1) (fun i H' => ∃ ps : List Addr, H' D = some (.lst (ps.map V.ref)) ∧ Paired (fun p kv => H' p = some (.tup [kV kv.1, kv.2])) ps (mkG (fun f => oV f.below) (ts.take i)) ∧ Same H1 H') ⟨[], upd_same, .nil, same_new nD _⟩ (fun i H' _ ⟨_, _, _, e⟩ => SqL.of (e _ _ C.lst)) ?_ ?_
    · rintro i v H' hi ⟨ps, h1, h2, h3⟩
      obtain ⟨t', et, rfl⟩ : ∃ t', ts[i]? = some t' ∧ v = V.ref t'.1 := by
        rw [List.getElem?_map] at hi
        cases e : ts[i]? with
        | none => rw [e] at hi; cases hi
        | some r => rw [e] at hi; exact ⟨r, rfl, (Option.some.inj hi).symm⟩
      have hr1 := h3 _ _ (C.rows t' (List.mem_of_getElem? et)).1
      refine ⟨rfl, yesT rfl ?_⟩
      refine ⟨_, rfl, t'.1, _, _, _, rfl, rfl, SqT.of hr1, atI_nat (j := 0) rfl, _, rfl, t'.1, _, _, _, rfl, rfl, SqT.of hr1, atI_nat (j := 1) rfl, by show 2 ≤ sizeLine; exact sz (by omega), fun q nq => ?_⟩
      have lps : ps.length = i := by
        have := h2.length
        unfold mkG at this
        have hil : i < ts.length := by
          rcases Nat.lt_or_ge i ts.length with z | z
          · exact z
          · rw [List.getElem?_eq_none z] at et; cases et
        rw [List.length_map, List.length_take] at this; omega
      have hil2 : i < ts.length := by
        rcases Nat.lt_or_ge i ts.length with z | z
        · exact z
        · rw [List.getElem?_eq_none z] at et; cases et
      have nDq : D ≠ q := ne_of_none h1 nq
      refine ⟨_, (upd_ne nDq).trans h1, szl (by rw [List.length_map]; omega), ps ++ [q], by rw [upd_same, List.map_append]; rfl, ?_, fun b o e => ?_⟩
      · have e1 : mkG (fun f => oV f.below) (ts.take (i + 1)) = mkG (fun f => oV f.below) (ts.take i) ++ [(Sum.inl t'.2.2.1, oV t'.2.2.2.below)] := by
          unfold mkG; rw [take_snocC et, List.map_append]; rfl
        rw [e1]
        have old : Paired (fun p kv => upd (upd H' q (.tup [V.int t'.2.2.1, oV t'.2.2.2.below])) D (.lst (ps.map V.ref ++ [V.ref q])) p = some (.tup [kV kv.1, kv.2])) ps (mkG (fun f => oV f.below) (ts.take i)) := L2.Paired.mapP h2 fun p kv e => by
          rw [upd_ne (ne_of e h1 (by intro z; cases z)), upd_ne (ne_of_none e nq)]; exact e
        exact paired_snoc old (by rw [upd_ne nDq.symm]; exact upd_same)
      · have := h3 _ _ e
        rw [upd_ne (ne_of_none e nD), upd_ne (ne_of_none this nq)]; exact this
    · rintro H2 ⟨ps, h1, h2, h3⟩
      rw [List.length_map, List.take_length] at h2
      refine ⟨D, ps, _, rfl, SqL.of h1, L2.Paired.mapP h2 fun p kv e => SqT.of e, fun d nd' => ?_⟩
      have e2 := h3.trans (same_new nd' (.dK (mergeK [] (mkG (fun f => oV f.below) ts))))
      refine ⟨Nat.zero_le _, fun p np => ?_⟩
      have hd : upd H2 d (.dK (mergeK [] (mkG (fun f => oV f.below) ts))) d = some _ := upd_same
      generalize upd H2 d (.dK (mergeK [] (mkG (fun f => oV f.below) ts))) = H3 at e2 hd np
      have sH : Same H H3 := C.same.trans e2
      refine ⟨fun m σ H' => ∃ (pre : List Int) (y : Option Int) (post : List Int) (u : Option V), σ = [some (.ref x.p), some (oV y), some (.ref d), some (.ref p), u] ∧ H' = upd H3 p (.lst (pre.map V.int)) ∧ Path W.frames y post ∧ l = pre ++ post ∧ m = post.length, ⟨l.length, [], t, l, _, rfl, rfl, hpath, rfl, rfl⟩, ?_⟩
      rintro m σ H' ⟨pre, y, post, u, rfl, rfl, hy, el2, rfl⟩
      refine ⟨_, rfl, rfl, _, rfl, ?_⟩
      cases hy with
      | nil =>
        refine iteF ⟨_, rfl, ?_⟩
        rw [List.append_nil] at el2
        subst el2
        exact k _ p (sH.trans (same_new np _)) (sH.free np) upd_same
      | @cons q f post e hy =>
        refine iteT ⟨fun σ' H' => ∃ (pre' : List Int) (y : Option Int) (post' : List Int) (u : Option V), σ' = [some (.ref x.p), some (oV y), some (.ref d), some (.ref p), u] ∧ H' = upd H3 p (.lst (pre'.map V.int)) ∧ Path W.frames y post' ∧ l = pre' ++ post' ∧ post'.length = post.length, fun σ' H' ⟨pre', y, post', u, a1, a2, a3, a4, a5⟩ => ⟨post'.length, by rw [a5]; simp, pre', y, post', u, a1, a2, a3, a4, rfl⟩, ?_⟩
        refine ⟨_, rfl, .inl ⟨rfl, _, SqL.of upd_same⟩, _, rfl, p, _, _, rfl, rfl, upd_same, szl (by rw [List.length_map]; rw [el2] at hlen; rw [List.length_append] at hlen; omega), ?_⟩
        rw [upd_upd]
        have hd2 : upd H3 p (.lst (pre.map V.int ++ [V.int q])) d = some _ := (upd_ne (ne_of_none hd np)).trans hd
        have gd : DGet (upd H3 p (.lst (pre.map V.int ++ [V.int q]))) d (V.int q) (some (oV f.below)) := by
          have := DGet.k (k := Sum.inl q) hd2
          rw [rows_get F R _ e] at this; exact this
        refine ⟨_, rfl, _, rfl, d, _, rfl, gd, ?_⟩
        exact ⟨pre ++ [q], f.below, post, _, rfl, by rw [List.map_append]; rfl, hy, by rw [el2]; simp, rfl⟩
theorem ok_held (T : Txt K mg) : FnOk P w K mg base (L2.CX P w) 3 (aG K "held") (fdOf K (aG K "held")) ["wood", "some"] (spHeld K) := by
  refine T.F_held.ok (CX := L2.CX P w) sc_held (fun vs H Q E h => ?_) (fun cdv A outer s H vs Q E hr h => ?_)
  · obtain ⟨_, _, _, _, _, rfl, _⟩ := h; rfl
  · obtain ⟨A, x, W, a, hs, rfl, I, hq, hl, ky, kn⟩ := h
    refine ⟨_, (pss_cons (ps_set (i := 2) sc_held.nd rfl (Or.inl rfl) pe_dnewK) (pss_cons (ps_for (passes_of rfl) rfl (pi_listK K rfl (pv 1)) (pg_name (i := 3) sc_held.nd rfl (Or.inl rfl)) (pss_one (ps_for (passes_of rfl) rfl (pi_listK K rfl (pe_call (ok_rooms_of T) (hr.mono (by decide)) rfl T.g_rooms_of T.F_rooms_of.kp T.b_rooms_of .nil pass0 (pa_cons (pv 0) (pa_cons (pe_call (ok_top T) (hr.mono (by decide)) rfl T.g_top T.F_top.kp T.b_top .nil (passes_call (takes_of rfl rfl rfl rfl) (fun _ _ _ _ h => h)) (pa_cons (pv 0) (pa_cons (pv 3) pa_nil))) pa_nil)))) (pg_name (i := 4) sc_held.nd rfl (Or.inl rfl)) (pss_one (ps_dput (hu_of hr) (pv 2) (pv 4) pe_bl rfl))))) (pss_one (ps_ret (pe_callB call_lenDK rfl T.n_len PySem.boot_len (pa_cons (pv 2) pa_nil)))))), ?_⟩
    have F := I.wf
    have pl : ∀ t ∈ hs.map (top W), (path W.frames t).length ≤ 40 := fun t ht => by
      obtain ⟨h, _, rfl⟩ := List.mem_map.mp ht
      exact Nat.le_trans (F.tpath h).len F.len
    refine fun d nd => ?_
    have e1 := same_new nd (.dK [])
    refine ⟨_, rfl, a, rfl, ⟨_, e1.seq hq⟩, ?_⟩
    refine for_list (K := K) (a := a) (xs := hs.map V.int) (fun i σ H' => ∃ u3 u4 : Option V, σ = [some (.ref x.p), some (.ref a), some (.ref d), u3, u4] ∧ Same H H' ∧ (∀ h ∈ hs.take i, hOk W h) ∧ H' d = some (.dK (mkU (heldL W.frames ((hs.take i).map (top W)))))) ⟨none, none, rfl, e1, by simp, upd_same⟩ (fun i σ H' _ ⟨_, _, _, e, _⟩ => e.seq hq) ?_ ?_
    · rintro i v σ H' hi ⟨u3, u4, rfl, e, ok, hd⟩
      obtain ⟨h, er, rfl⟩ : ∃ r, hs[i]? = some r ∧ v = V.int r := by
        rw [List.getElem?_map] at hi
        cases e : hs[i]? with
        | none => rw [e] at hi; cases hi
        | some r => rw [e] at hi; exact ⟨r, rfl, (Option.some.inj hi).symm⟩
      have I' := I.same e
      refine ⟨_, rfl, _, rfl, _, rfl, A, x, W, h, rfl, I', fun hk => ?_, fun hk => ?_⟩
      · refine ⟨A, x, W, top W h, rfl, I', F.topIn h, fun H2 p e2 np hp => ?_⟩
        have hd2 := e2 _ _ hd
        refine ⟨p, rfl, ⟨_, SqL.of hp⟩, ?_⟩
        have tk : heldL W.frames ((hs.take (i + 1)).map (top W)) = (path W.frames (top W h)).foldl addU (heldL W.frames ((hs.take i).map (top W))) := by
          rw [take_snocC er, List.map_append]; exact heldL_snoc _ _ _
        have l1 := heldL_len (fs := W.frames) (ts := (hs.take i).map (top W)) fun t ht => pl t (by
          obtain ⟨h, hh, rfl⟩ := List.mem_map.mp ht
          exact List.mem_map.mpr ⟨h, List.mem_of_mem_take hh, rfl⟩)
        have l2 := Nat.le_trans (F.tpath h).len F.len
        rw [List.length_map, List.length_take] at l1
        have ndp : d ≠ p := ne_of_none hd np
        refine for_list (K := K) (a := p) (xs := (path W.frames (top W h)).map V.int) (fun j σ H' => ∃ u4 : Option V, σ = [some (.ref x.p), some (.ref a), some (.ref d), some (.int h), u4] ∧ Same H H' ∧ H' p = some (.lst ((path W.frames (top W h)).map V.int)) ∧ H' d = some (.dK (mkU (((path W.frames (top W h)).take j).foldl addU (heldL W.frames ((hs.take i).map (top W))))))) ⟨u4, rfl, e.trans e2, hp, hd2⟩ (fun j σ H' _ ⟨_, _, _, e, _⟩ => SqL.of e) ?_ ?_
        · rintro j v σ H3 hj ⟨u4, rfl, e3, hp3, hd3⟩
          obtain ⟨r, er2, rfl⟩ : ∃ r, (path W.frames (top W h))[j]? = some r ∧ v = V.int r := by
            rw [List.getElem?_map] at hj
            cases e : (path W.frames (top W h))[j]? with
            | none => rw [e] at hj; cases hj
            | some r => rw [e] at hj; exact ⟨r, rfl, (Option.some.inj hj).symm⟩
          have l3 := addUs_len ((path W.frames (top W h)).take j) (heldL W.frames ((hs.take i).map (top W)))
          rw [List.length_take] at l3
          refine ⟨_, rfl, _, rfl, d, _, rfl, DPut.k (k := Sum.inl r) hd3 (szl (by unfold mkU; rw [List.length_map]; omega)), ?_⟩
          refine ⟨_, rfl, fun b o eb => ?_, ?_, ?_⟩
          · rw [upd_ne (ne_of_none eb nd)]; exact e3 b o eb
          · rw [upd_ne ndp.symm]; exact hp3
          · rw [upd_same, take_snocC er2, List.foldl_append]
            show some (HO.dK (putK _ (Sum.inl r) _)) = _
            rw [putK_mkU]; rfl
        · rintro σ H3 ⟨u4, rfl, e3, hp3, hd3⟩
          rw [List.length_map, List.take_length] at hd3
          refine ⟨_, _, rfl, e3, fun z hz => ?_, by rw [tk]; exact hd3⟩
          rw [take_snocC er] at hz
          rcases List.mem_append.mp hz with q | q
          · exact ok z q
          · have : z = h := by simpa using q
            rw [this]; exact hk
      · have := kn ⟨h, List.mem_of_getElem? er, hk⟩
        exact fun H2 e2 => this H2 (e.trans e2)
    · rintro σ H' ⟨u3, u4, rfl, e, ok, hd⟩
      rw [List.length_map, List.take_length] at hd ok
      refine ⟨_, rfl, d, _, rfl, hd, ?_⟩
      have : (mkU (heldL W.frames (hs.map (top W)))).length = (heldL W.frames (hs.map (top W))).length := by unfold mkU; rw [List.length_map]
      rw [this]
      exact ky ok H' e
theorem ok_alone (T : Txt K mg) : FnOk P w K mg base (L2.CX P w) 3 (aG K "alone") (fdOf K (aG K "alone")) ["wood", "hand"] (spAlone K) := by
  refine T.F_alone.ok (CX := L2.CX P w) sc_alone (fun vs H Q E h => ?_) (fun cdv A outer s H vs Q E hr h => ?_)
  · obtain ⟨_, _, _, _, rfl, _⟩ := h; rfl
  · obtain ⟨A, x, W, h, rfl, I, ky, kn⟩ := h
    refine ⟨_, (pss_cons (ps_set (i := 2) sc_alone.nd rfl (Or.inl rfl) (pe_callTy (call_dictP rfl) rfl T.n_dict (by decide +kernel) (pa_cons (pe_lc (own := [("call", 5)]) (g := gName 5) rfl sc_alone.nd (pi_listK K rfl (pe_meth0 (pv 0) T.cl_Wood T.m_calls (ok_Wood_calls T) (hr.mono (by decide)) T.b_Wood_calls .nil pass0)) (blkOk_by (own := [("call", 5)]) (N := ["wood", "hand", "needs", "many", "room", "call"]) (sc := (defScope s_alone)) (by decide +kernel)) (fun _ _ _ _ _ => pg_name (i := 5) sc_alone.nd rfl (Or.inl rfl)) (fun _ _ _ _ _ => by exact pts_nil) (fun _ _ _ _ _ => by exact (pe_tup (pa_cons (pe_ix (ix_tupK K rfl) (pv 5) pe_int (fun _ _ => rfl)) (pa_cons (pe_ix (ix_tupK K rfl) (pv 5) pe_int (fun _ _ => rfl)) pa_nil))))) pa_nil))) (pss_cons (ps_set (i := 3) sc_alone.nd rfl (Or.inl rfl) pe_int) (pss_cons (ps_for (passes_of rfl) rfl (pi_listK K rfl (pe_call (ok_rooms_of T) (hr.mono (by decide)) rfl T.g_rooms_of T.F_rooms_of.kp T.b_rooms_of .nil pass0 (pa_cons (pv 0) (pa_cons (pe_call (ok_top T) (hr.mono (by decide)) rfl T.g_top T.F_top.kp T.b_top .nil (passes_call (takes_of rfl rfl rfl rfl) (fun _ _ _ _ h => h)) (pa_cons (pv 0) (pa_cons (pv 1) pa_nil))) pa_nil)))) (pg_name (i := 4) sc_alone.nd rfl (Or.inl rfl)) (pss_cons (ps_if (pt_cmpR op_gt (pe_dget (hu_of hr) (pv 2) (pv 4) (fun _ _ => rfl)) pe_int (nomark _)) (pss_one (ps_ret (pv 3))) pss_nil) (pss_one (ps_set (i := 3) sc_alone.nd rfl (Or.inl rfl) (pe_op op_add (pv 3) pe_int))))) (pss_one (ps_ret (pv 3)))))), ?_⟩
    have hp := I.sub _ _ I.wa.ins
    have F := I.wf
    refine ⟨_, rfl, x.p, _, _, rfl, hp, wf_no (by decide +kernel), A, x, W, rfl, I, fun H1 c ts C R => ?_⟩
    have tl : ts.length ≤ 40 := by rw [rows_len R]; exact F.len
    refine ⟨c, rfl, ⟨_, SqL.of C.lst⟩, fun D nD => ?_⟩
    refine lc_list (K := K) (a := c) (xs := ts.map fun t => V.ref t.1) (fun i H' => ∃ ps : List Addr, H' D = some (.lst (ps.map V.ref)) ∧ Paired (fun p kv => H' p = some (.tup [kV kv.1, kv.2])) ps (mkG (fun f => V.int f.needs) (ts.take i)) ∧ Same H1 H') ⟨[], upd_same, .nil, same_new nD _⟩ (fun i H' _ ⟨_, _, _, e⟩ => SqL.of (e _ _ C.lst)) ?_ ?_
    · rintro i v H' hi ⟨ps, h1, h2, h3⟩
      obtain ⟨t', et, rfl⟩ : ∃ t', ts[i]? = some t' ∧ v = V.ref t'.1 := by
        rw [List.getElem?_map] at hi
        cases e : ts[i]? with
        | none => rw [e] at hi; cases hi
        | some r => rw [e] at hi; exact ⟨r, rfl, (Option.some.inj hi).symm⟩
      have hr1 := h3 _ _ (C.rows t' (List.mem_of_getElem? et)).1
      refine ⟨rfl, yesT rfl ?_⟩
      refine ⟨_, rfl, t'.1, _, _, _, rfl, rfl, SqT.of hr1, atI_nat (j := 0) rfl, _, rfl, t'.1, _, _, _, rfl, rfl, SqT.of hr1, atI_nat (j := 2) rfl, by show 2 ≤ sizeLine; exact sz (by omega), fun q nq => ?_⟩
      have hil2 : i < ts.length := by
        rcases Nat.lt_or_ge i ts.length with z | z
        · exact z
        · rw [List.getElem?_eq_none z] at et; cases et
      have lps : ps.length = i := by
        have := h2.length
        unfold mkG at this
        rw [List.length_map, List.length_take] at this; omega
      have nDq : D ≠ q := ne_of_none h1 nq
      refine ⟨_, (upd_ne nDq).trans h1, szl (by rw [List.length_map]; omega), ps ++ [q], by rw [upd_same, List.map_append]; rfl, ?_, fun b o e => ?_⟩
      · have e1 : mkG (fun f => V.int f.needs) (ts.take (i + 1)) = mkG (fun f => V.int f.needs) (ts.take i) ++ [(Sum.inl t'.2.2.1, V.int t'.2.2.2.needs)] := by
          unfold mkG; rw [take_snocC et, List.map_append]; rfl
        rw [e1]
        have old : Paired (fun p kv => upd (upd H' q (.tup [V.int t'.2.2.1, V.int t'.2.2.2.needs])) D (.lst (ps.map V.ref ++ [V.ref q])) p = some (.tup [kV kv.1, kv.2])) ps (mkG (fun f => V.int f.needs) (ts.take i)) := L2.Paired.mapP h2 fun p kv e => by
          rw [upd_ne (ne_of e h1 (by intro z; cases z)), upd_ne (ne_of_none e nq)]; exact e
        exact paired_snoc old (by rw [upd_ne nDq.symm]; exact upd_same)
      · have := h3 _ _ e
        rw [upd_ne (ne_of_none e nD), upd_ne (ne_of_none this nq)]; exact this
    · rintro H2 ⟨ps, h1, h2, h3⟩
      rw [List.length_map, List.take_length] at h2
      refine ⟨D, ps, _, rfl, SqL.of h1, L2.Paired.mapP h2 fun p kv e => SqT.of e, fun d nd' => ?_⟩
      have e2 := h3.trans (same_new nd' (.dK (mergeK [] (mkG (fun f => V.int f.needs) ts))))
      have hd : upd H2 d (.dK (mergeK [] (mkG (fun f => V.int f.needs) ts))) d = some _ := upd_same
      generalize upd H2 d (.dK (mergeK [] (mkG (fun f => V.int f.needs) ts))) = H3 at e2 hd
      have sH : Same H H3 := C.same.trans e2
      have I3 := I.same sH
      refine ⟨_, rfl, _, rfl, _, rfl, A, x, W, h, rfl, I3, fun hk => ?_, fun hk => ?_⟩
      · refine ⟨A, x, W, top W h, rfl, I3, F.topIn h, fun H4 p e4 np hp4 => ?_⟩
        have hpath := F.tpath h
        have hd4 := e4 _ _ hd
        have sH4 := sH.trans e4
        have ky' := ky hk
        generalize path W.frames (top W h) = l at hpath hp4 ky'
        have ndn : ∀ {j : Nat} {r : Int}, l[j]? = some r → ∃ f, lk W.frames r = some f := fun e => hpath.in _ (List.mem_of_getElem? e)
        refine ⟨p, rfl, ⟨_, SqL.of hp4⟩, ?_⟩
        refine for_list (K := K) (a := p) (xs := l.map V.int) (fun j σ H' => ∃ u4 u5 : Option V, σ = [some (.ref x.p), some (.int h), some (.ref d), some (.int (j : Int)), u4, u5] ∧ H' = H4 ∧ ∀ (i : Nat) (b : Int), i < j → l[i]? = some b → decide (nd W.frames b ≤ 1) = true) ⟨_, _, rfl, rfl, fun i b hi => absurd hi (by omega)⟩ (fun j σ H' _ ⟨_, _, _, e, _⟩ => by rw [e]; exact SqL.of hp4) ?_ ?_
        · rintro j v σ H' hj ⟨u4, u5, rfl, rfl, hall⟩
          obtain ⟨r, er2, rfl⟩ : ∃ r, l[j]? = some r ∧ v = V.int r := by
            rw [List.getElem?_map] at hj
            cases e : l[j]? with
            | none => rw [e] at hj; cases hj
            | some r => rw [e] at hj; exact ⟨r, rfl, (Option.some.inj hj).symm⟩
          obtain ⟨f, ef⟩ := ndn er2
          have gd : DGet H' d (V.int r) (some (V.int f.needs)) := by
            have := DGet.k (k := Sum.inl r) hd4
            rw [rows_get F R _ ef] at this; exact this
          refine ⟨_, rfl, _, rfl, d, _, rfl, gd, _, _, rfl, rfl, _, rfl, ?_⟩
          by_cases hn : 1 < f.needs
          · rw [decide_eq_true hn]
            refine iteT ⟨_, rfl, ?_⟩
            have e1 : (aloneL W.frames l).length = j := tw_stop hall er2 (by rw [nd_of ef]; exact decide_eq_false (by omega))
            rw [e1] at ky'
            exact ky' _ sH4
          · rw [decide_eq_false hn]
            refine iteF ⟨_, rfl, _, _, rfl, rfl, ?_⟩
            refine ⟨_, _, rfl, rfl, fun i b hi eb => ?_⟩
            by_cases z : i = j
            · subst z
              rw [er2] at eb; cases eb
              rw [nd_of ef]; exact decide_eq_true (by omega)
            · exact hall i b (by omega) eb
        · rintro σ H' ⟨u4, u5, rfl, rfl, hall⟩
          rw [List.length_map] at hall
          have e1 : aloneL W.frames l = l := tw_all fun i b eb => hall i b (by
            rcases Nat.lt_or_ge i l.length with z | z
            · exact z
            · rw [List.getElem?_eq_none z] at eb; cases eb) eb
          rw [e1] at ky'
          rw [List.length_map]
          exact ⟨_, rfl, ky' _ sH4⟩
      · have := kn hk
        exact fun H5 e5 => this H5 (sH.trans e5)
theorem ok_common (T : Txt K mg) : FnOk P w K mg base (L2.CX P w) 3 (aG K "common") (fdOf K (aG K "common")) ["wood", "hand", "other"] (spCommon K) := by
  refine T.F_common.ok (CX := L2.CX P w) sc_common (fun vs H Q E h => ?_) (fun cdv A outer s H vs Q E hr h => ?_)
  · obtain ⟨_, _, _, _, _, rfl, _⟩ := h; rfl
  · obtain ⟨A, x, W, h, g, rfl, I, ky, kn⟩ := h
    refine ⟨_, (pss_cons (ps_set (i := 3) sc_common.nd rfl (Or.inl rfl) (pe_call (ok_rooms_of T) (hr.mono (by decide)) rfl T.g_rooms_of T.F_rooms_of.kp T.b_rooms_of .nil pass0 (pa_cons (pv 0) (pa_cons (pe_call (ok_top T) (hr.mono (by decide)) rfl T.g_top T.F_top.kp T.b_top .nil (passes_call (takes_of rfl rfl rfl rfl) (fun _ _ _ _ h => h)) (pa_cons (pv 0) (pa_cons (pv 1) pa_nil))) pa_nil)))) (pss_cons (ps_set (i := 4) sc_common.nd rfl (Or.inr rfl) (pe_call (ok_rooms_of T) (hr.mono (by decide)) rfl T.g_rooms_of T.F_rooms_of.kp T.b_rooms_of .nil pass0 (pa_cons (pv 0) (pa_cons (pe_call (ok_top T) (hr.mono (by decide)) rfl T.g_top T.F_top.kp T.b_top .nil (passes_call (takes_of rfl rfl rfl rfl) (fun _ _ _ _ h => h)) (pa_cons (pv 0) (pa_cons (pv 2) pa_nil))) pa_nil)))) (pss_one (ps_ret (pe_callB (call_lenK K rfl) rfl T.n_len PySem.boot_len (pa_cons (pe_lc (own := [("room", 5)]) (g := gName 5) rfl sc_common.nd (pi_listK K rfl (pv 3)) (blkOk_by (own := [("room", 5)]) (N := ["wood", "hand", "other", "mine", "theirs", "room"]) (sc := (defScope s_common)) (by decide +kernel)) (fun _ _ _ _ _ => pg_name (i := 5) sc_common.nd rfl (Or.inl rfl)) (fun _ _ _ _ _ => by exact (pts_one (pt_cmpR (op_in_seqK K rfl) (pv 5) (pv 4) rfl))) (fun _ _ _ _ _ => by exact (pv 5))) pa_nil)))))), ?_⟩
    have F := I.wf
    refine ⟨_, rfl, _, rfl, _, rfl, A, x, W, h, rfl, I, fun hk => ?_, fun hk => kn fun z => hk z.1⟩
    refine ⟨A, x, W, top W h, rfl, I, F.topIn h, fun H1 p e1 np hp => ?_⟩
    have I1 := I.same e1
    refine ⟨_, rfl, _, rfl, _, rfl, A, x, W, g, rfl, I1, fun hg => ?_, fun hg => ?_⟩
    · refine ⟨A, x, W, top W g, rfl, I1, F.topIn g, fun H2 q e2 nq hq => ?_⟩
      have ky' := ky hk hg
      have hl1 := Nat.le_trans (F.tpath h).len F.len
      have hp2 := e2 _ _ hp
      generalize path W.frames (top W h) = l at hp hp2 ky' hl1
      generalize path W.frames (top W g) = m at hq ky'
      refine ⟨_, rfl, p, rfl, ⟨_, SqL.of hp2⟩, fun D nD => ?_⟩
      refine lc_list (K := K) (a := p) (xs := l.map V.int) (fun i H' => H' D = some (.lst (((l.take i).filter fun r => decide (r ∈ m)).map V.int)) ∧ Same H2 H') ⟨upd_same, same_new nD _⟩ (fun i H' _ ⟨_, e⟩ => SqL.of (e _ _ hp2)) ?_ ?_
      · rintro i v H' hi ⟨h1, h3⟩
        obtain ⟨r, er, rfl⟩ : ∃ r, l[i]? = some r ∧ v = V.int r := by
          rw [List.getElem?_map] at hi
          cases e : l[i]? with
          | none => rw [e] at hi; cases hi
          | some r => rw [e] at hi; exact ⟨r, rfl, (Option.some.inj hi).symm⟩
        refine ⟨rfl, ?_⟩
        have e4 : (l.take (i + 1)).filter (fun r => decide (r ∈ m)) = (l.take i).filter (fun r => decide (r ∈ m)) ++ if r ∈ m then [r] else [] := by
          rw [take_snocC er, List.filter_append]
          by_cases z : r ∈ m <;> simp [z]
        have l5 := Nat.le_trans (List.length_filter_le (fun r => decide (r ∈ m)) (l.take i)) (by rw [List.length_take]; omega : _ ≤ 40)
        obtain ⟨z1, z2⟩ := inV_ints r m
        refine ⟨_, rfl, _, rfl, q, _, rfl, .inl (SqL.of (h3 _ _ hq)), rfl, z2, _, rfl, ?_⟩
        by_cases z : r ∈ m
        · refine ifT (by simp [z1, z]) ?_
          refine ⟨_, rfl, _, h1, szl (by rw [List.length_map]; omega), by rw [upd_same, e4, if_pos z, List.map_append]; rfl, fun b o e => by rw [upd_ne (ne_of_none e nD)]; exact h3 _ _ e⟩
        · refine ifF (by simp [z1, z]) ?_
          exact ⟨by rw [e4, if_neg z, List.append_nil]; exact h1, h3⟩
      · rintro H3 ⟨h1, h3⟩
        rw [List.length_map, List.take_length] at h1
        refine ⟨D, _, rfl, .inl (SqL.of h1), ?_⟩
        rw [List.length_map]
        exact ky' H3 ((e1.trans e2).trans h3)
    · have := kn fun z => hg z.2
      exact fun H5 e5 => this H5 (e1.trans e5)
end
end Sk
end
section
/-! SwL2: whether two things are alike; a deed is done. -/
namespace Sk
open PySem PySem.Spec PyProof.Rows L2 SW
/-- two things told alike, at most n deep -/
inductive Eqv (K : PySem.W.Frag) (H : Hp) : Nat → V → V → Prop
  | non (n : Nat) : Eqv K H n .non .non
  | int (n : Nat) (i : Int) : Eqv K H n (.int i) (.int i)
  | str (n : Nat) (x : Str) : Eqv K H n (.str x) (.str x)
  | lst (n : Nat) {a b : Addr} {xs ys : List V} : SqL K H a xs → SqL K H b ys → xs.length = ys.length → xs.length ≤ 100000 → (∀ (i : Nat) (x y : V), xs[i]? = some x → ys[i]? = some y → Eqv K H n x y) → Eqv K H (n + 1) (.ref a) (.ref b)
  | tup (n : Nat) {a b : Addr} {xs ys : List V} : SqT K H a xs → SqT K H b ys → xs.length = ys.length → xs.length ≤ 100000 → (∀ (i : Nat) (x y : V), xs[i]? = some x → ys[i]? = some y → Eqv K H n x y) → Eqv K H (n + 1) (.ref a) (.ref b)
/-- what a deed tells -/
inductive Res
  | int (n : Int)
  | non
  | lst (zs : List Int)
def okM {α β : Type} (r : Except Er α) (f : α → β) : Except Er β := match r with
  | .error e => .error e
  | .ok a => .ok (f a)
def doDeed (W : Wd) : Deed → Except Er (Res × Wd)
  | .call h vs => okM (doCall W h vs) fun r => (.int r.1, r.2)
  | .back h => okM (doBack W h) fun r => (.lst r.1, r.2)
  | .put h d s v => okM (doPut W h d s v) fun r => (.int r.1, r.2)
  | .branch h o => okM (doBranch W h o) fun r => (.non, r)
  | .keep h => okM (doKeep W h) fun r => (.int r.1, r.2)
  | .leap h p => okM (doLeap W h p) fun r => (.non, r)
  | .forget p => okM (doForget W p) fun r => (.non, r)
/-- the value that tells it; a list is new since H -/
def ResAt (H H' : Hp) (v : V) : Res → Prop
  | .int n => v = .int n
  | .non => v = .non
  | .lst zs => ∃ l, v = .ref l ∧ H l = none ∧ H' l = some (.lst (zs.map V.int))
def spDoes (K : PySem.W.Frag) : Sp := fun vs H Q E => ∃ (A : Hp) (x : Ad) (W : Wd) (t : Addr) (D : Deed), vs = [.ref x.p, .ref t] ∧ At K A H x W ∧ DeedAt H t D ∧ W.marks.length ≤ 10000 ∧
  match doDeed W D with
  | .error e => Ref K H E e
  | .ok (r, W') => ∀ A' x' H' v, x'.p = x.p → WA K A' x' W' → Stp A H A' H' → ResAt H H' v r → (∀ l, v = .ref l → A' l = none) → Q v H'
def spLike (K : PySem.W.Frag) (n : Nat) : Sp := fun vs H Q _ => ∃ u v : V, vs = [u, v] ∧ Eqv K H n u v ∧ Q (.bl true) H
theorem tyx_list {K : PySem.W.Frag} {H : Hp} {a : Addr} {xs : List V} (h : SqL K H a xs) : TyX K H (.ref a) (.type "list") := by
  rcases h with (h | ⟨o, h⟩) | ⟨o, its, n, h1, h2, _⟩
  · exact .base (.lst h)
  · exact .base (.frz h)
  · exact .kList h1 h2
theorem tyx_tup {K : PySem.W.Frag} {H : Hp} {a : Addr} {xs : List V} (h : SqT K H a xs) : TyX K H (.ref a) (.type "tuple") := by
  rcases h with (h | ⟨o, h⟩) | ⟨o, its, n, h1, h2, _⟩
  · exact .base (.tup h)
  · exact .fTuple h
  · exact .kTuple h1 h2
/-- isinstance's reading, of a built-in class -/
theorem isi {K : PySem.W.Frag} {H : Hp} {Q : VK} {x : V} {s t : String} {b : Bool} (ty : TyX K H x (.type s)) (k : kitB s t = some b) (q : Q (.bl b) H) : rIsi K [x, .ty t] H Q :=
  ⟨x, .ty t, _, _, b, rfl, .ty t, ty, kit_ty k, q⟩
section
variable {P : Program} {w : World} {K : PySem.W.Frag} {mg : Str → Option Value} {base : Heap}
theorem ok_l_like (T : Txt K mg) : ∀ n : Nat, FnOk P w K mg base CX0 (n + 1) (aG K "_law_like") (fdOf K (aG K "_law_like")) ["_law_found", "_law_due_here"] (spLike K n) := by
  intro n
  induction n with
  | zero =>
    refine T.F_l_like.ok sc_l_like (fun vs H Q E h => ?_) (fun cdv A outer s H vs Q E hr h => ?_)
    · obtain ⟨_, _, rfl, _⟩ := h; rfl
    · obtain ⟨u, v, rfl, e, k⟩ := h
      refine ⟨_, PSs.nox (pss_cons (ps_if (pt_val (pe_callB (call_isiK K rfl) rfl T.n_isinstance (by decide +kernel) (pa_cons (pv 1) (pa_cons (pe_bltn (v := .ty "bool") rfl T.n_bool (by decide +kernel) rfl) pa_nil)))) (pss_one (ps_ret (pe_and (pe_callB (call_isiK K rfl) rfl T.n_isinstance (by decide +kernel) (pa_cons (pv 0) (pa_cons (pe_bltn (v := .ty "bool") rfl T.n_bool (by decide +kernel) rfl) pa_nil))) (pe_one (pe_cmpR op_eq (pv 0) (pv 1) (nomark _)))))) pss_nil) (pss_cons (ps_if (pt_val (pe_callB (call_isiK K rfl) rfl T.n_isinstance (by decide +kernel) (pa_cons (pv 1) (pa_cons (pe_bltn (v := .ty "str") rfl T.n_str (by decide +kernel) rfl) pa_nil)))) (pss_one (ps_ret (pe_and (pe_callB (call_isiK K rfl) rfl T.n_isinstance (by decide +kernel) (pa_cons (pv 0) (pa_cons (pe_bltn (v := .ty "str") rfl T.n_str (by decide +kernel) rfl) pa_nil))) (pe_one (pe_cmpR op_eq (pv 0) (pv 1) (nomark _)))))) pss_nil) (pss_cons (ps_if (pt_val (pe_callB (call_isiK K rfl) rfl T.n_isinstance (by decide +kernel) (pa_cons (pv 1) (pa_cons (pe_bltn (v := .ty "int") rfl T.n_int (by decide +kernel) rfl) pa_nil)))) (pss_one (ps_ret (pe_and (pe_callB (call_isiK K rfl) rfl T.n_isinstance (by decide +kernel) (pa_cons (pv 0) (pa_cons (pe_bltn (v := .ty "int") rfl T.n_int (by decide +kernel) rfl) pa_nil))) (pe_and (pe_not (pe_callB (call_isiK K rfl) rfl T.n_isinstance (by decide +kernel) (pa_cons (pv 0) (pa_cons (pe_bltn (v := .ty "bool") rfl T.n_bool (by decide +kernel) rfl) pa_nil)))) (pe_one (pe_cmpR op_eq (pv 0) (pv 1) (nomark _))))))) pss_nil) (pss_cons (ps_if (pt_cmpR op_isN1 (pv 1) pe_non (nomark _)) (pss_one (ps_ret (pe_cmpR op_isN1 (pv 0) pe_non (nomark _)))) pss_nil) (pss_cons (ps_if (pt_val (pe_callB (call_isiK K rfl) rfl T.n_isinstance (by decide +kernel) (pa_cons (pv 1) (pa_cons (pe_bltn (v := .ty "dict") rfl T.n_dict (by decide +kernel) rfl) pa_nil)))) pss_never pss_nil) (pss_cons (ps_if (PW.pt (pw_or (pt_cmpR op_ne (pe_callB (call_isiK K rfl) rfl T.n_isinstance (by decide +kernel) (pa_cons (pv 1) (pa_cons (pe_bltn (v := .ty "tuple") rfl T.n_tuple (by decide +kernel) rfl) pa_nil))) (pe_callB (call_isiK K rfl) rfl T.n_isinstance (by decide +kernel) (pa_cons (pv 0) (pa_cons (pe_bltn (v := .ty "tuple") rfl T.n_tuple (by decide +kernel) rfl) pa_nil))) (nomark _)) (pw_or1 (pt_cmpR op_ne (pe_callB (call_isiK K rfl) rfl T.n_isinstance (by decide +kernel) (pa_cons (pv 1) (pa_cons (pe_bltn (v := .ty "list") rfl T.n_list (by decide +kernel) rfl) pa_nil))) (pe_callB (call_isiK K rfl) rfl T.n_isinstance (by decide +kernel) (pa_cons (pv 0) (pa_cons (pe_bltn (v := .ty "list") rfl T.n_list (by decide +kernel) rfl) pa_nil))) (nomark _))))) (pss_one (ps_ret pe_bl)) pss_nil) (pss_cons (ps_if (pt_cmpR op_ne (pe_callB (call_lenK K rfl) rfl T.n_len PySem.boot_len (pa_cons (pv 0) pa_nil)) (pe_callB (call_lenK K rfl) rfl T.n_len PySem.boot_len (pa_cons (pv 1) pa_nil)) (nomark _)) (pss_one (ps_ret pe_bl)) pss_nil) (pss_cons ps_never (pss_one (ps_ret pe_bl)))))))))), ?_⟩
      cases e with
      | non =>
        refine ⟨_, rfl, _, _, _, _, false, rfl, .ty _, (.base .non), kit_ty (by decide +kernel), _, rfl, iteF ?_⟩
        refine ⟨_, rfl, _, _, _, _, false, rfl, .ty _, (.base .non), kit_ty (by decide +kernel), _, rfl, iteF ?_⟩
        refine ⟨_, rfl, _, _, _, _, false, rfl, .ty _, (.base .non), kit_ty (by decide +kernel), _, rfl, iteF ?_⟩
        refine ⟨_, rfl, rfl, _, rfl, iteT ?_⟩
        exact ⟨_, rfl, rfl, k⟩
      | int _ i =>
        refine ⟨_, rfl, _, _, _, _, false, rfl, .ty _, (.base (.int i)), kit_ty (by decide +kernel), _, rfl, iteF ?_⟩
        refine ⟨_, rfl, _, _, _, _, false, rfl, .ty _, (.base (.int i)), kit_ty (by decide +kernel), _, rfl, iteF ?_⟩
        refine ⟨_, rfl, _, _, _, _, true, rfl, .ty _, (.base (.int i)), kit_ty (by decide +kernel), _, rfl, iteT ?_⟩
        refine ⟨_, rfl, _, _, _, _, true, rfl, .ty _, (.base (.int i)), kit_ty (by decide +kernel), _, rfl, iteT ?_⟩
        refine ⟨_, rfl, _, _, _, _, false, rfl, .ty _, (.base (.int i)), kit_ty (by decide +kernel), _, rfl, _, rfl, iteT ?_⟩
        refine ⟨_, rfl, _, rfl, rfl, ?_⟩
        rw [decide_eq_true rfl]; exact k
      | str _ z =>
        refine ⟨_, rfl, _, _, _, _, false, rfl, .ty _, (.base (.str z)), kit_ty (by decide +kernel), _, rfl, iteF ?_⟩
        refine ⟨_, rfl, _, _, _, _, true, rfl, .ty _, (.base (.str z)), kit_ty (by decide +kernel), _, rfl, iteT ?_⟩
        refine ⟨_, rfl, _, _, _, _, true, rfl, .ty _, (.base (.str z)), kit_ty (by decide +kernel), _, rfl, iteT ?_⟩
        refine ⟨_, rfl, _, rfl, rfl, ?_⟩
        rw [decide_eq_true rfl]; exact k
  | succ n ih =>
    refine T.F_l_like.ok sc_l_like (fun vs H Q E h => ?_) (fun cdv A outer s H vs Q E hr h => ?_)
    · obtain ⟨_, _, rfl, _⟩ := h; rfl
    · obtain ⟨u, v, rfl, e, k⟩ := h
      refine ⟨_, PSs.nox (pss_cons (ps_if (pt_val (pe_callB (call_isiK K rfl) rfl T.n_isinstance (by decide +kernel) (pa_cons (pv 1) (pa_cons (pe_bltn (v := .ty "bool") rfl T.n_bool (by decide +kernel) rfl) pa_nil)))) (pss_one (ps_ret (pe_and (pe_callB (call_isiK K rfl) rfl T.n_isinstance (by decide +kernel) (pa_cons (pv 0) (pa_cons (pe_bltn (v := .ty "bool") rfl T.n_bool (by decide +kernel) rfl) pa_nil))) (pe_one (pe_cmpR op_eq (pv 0) (pv 1) (nomark _)))))) pss_nil) (pss_cons (ps_if (pt_val (pe_callB (call_isiK K rfl) rfl T.n_isinstance (by decide +kernel) (pa_cons (pv 1) (pa_cons (pe_bltn (v := .ty "str") rfl T.n_str (by decide +kernel) rfl) pa_nil)))) (pss_one (ps_ret (pe_and (pe_callB (call_isiK K rfl) rfl T.n_isinstance (by decide +kernel) (pa_cons (pv 0) (pa_cons (pe_bltn (v := .ty "str") rfl T.n_str (by decide +kernel) rfl) pa_nil))) (pe_one (pe_cmpR op_eq (pv 0) (pv 1) (nomark _)))))) pss_nil) (pss_cons (ps_if (pt_val (pe_callB (call_isiK K rfl) rfl T.n_isinstance (by decide +kernel) (pa_cons (pv 1) (pa_cons (pe_bltn (v := .ty "int") rfl T.n_int (by decide +kernel) rfl) pa_nil)))) (pss_one (ps_ret (pe_and (pe_callB (call_isiK K rfl) rfl T.n_isinstance (by decide +kernel) (pa_cons (pv 0) (pa_cons (pe_bltn (v := .ty "int") rfl T.n_int (by decide +kernel) rfl) pa_nil))) (pe_and (pe_not (pe_callB (call_isiK K rfl) rfl T.n_isinstance (by decide +kernel) (pa_cons (pv 0) (pa_cons (pe_bltn (v := .ty "bool") rfl T.n_bool (by decide +kernel) rfl) pa_nil)))) (pe_one (pe_cmpR op_eq (pv 0) (pv 1) (nomark _))))))) pss_nil) (pss_cons (ps_if (pt_cmpR op_isN1 (pv 1) pe_non (nomark _)) (pss_one (ps_ret (pe_cmpR op_isN1 (pv 0) pe_non (nomark _)))) pss_nil) (pss_cons (ps_if (pt_val (pe_callB (call_isiK K rfl) rfl T.n_isinstance (by decide +kernel) (pa_cons (pv 1) (pa_cons (pe_bltn (v := .ty "dict") rfl T.n_dict (by decide +kernel) rfl) pa_nil)))) pss_never pss_nil) (pss_cons (ps_if (PW.pt (pw_or (pt_cmpR op_ne (pe_callB (call_isiK K rfl) rfl T.n_isinstance (by decide +kernel) (pa_cons (pv 1) (pa_cons (pe_bltn (v := .ty "tuple") rfl T.n_tuple (by decide +kernel) rfl) pa_nil))) (pe_callB (call_isiK K rfl) rfl T.n_isinstance (by decide +kernel) (pa_cons (pv 0) (pa_cons (pe_bltn (v := .ty "tuple") rfl T.n_tuple (by decide +kernel) rfl) pa_nil))) (nomark _)) (pw_or1 (pt_cmpR op_ne (pe_callB (call_isiK K rfl) rfl T.n_isinstance (by decide +kernel) (pa_cons (pv 1) (pa_cons (pe_bltn (v := .ty "list") rfl T.n_list (by decide +kernel) rfl) pa_nil))) (pe_callB (call_isiK K rfl) rfl T.n_isinstance (by decide +kernel) (pa_cons (pv 0) (pa_cons (pe_bltn (v := .ty "list") rfl T.n_list (by decide +kernel) rfl) pa_nil))) (nomark _))))) (pss_one (ps_ret pe_bl)) pss_nil) (pss_cons (ps_if (pt_cmpR op_ne (pe_callB (call_lenK K rfl) rfl T.n_len PySem.boot_len (pa_cons (pv 0) pa_nil)) (pe_callB (call_lenK K rfl) rfl T.n_len PySem.boot_len (pa_cons (pv 1) pa_nil)) (nomark _)) (pss_one (ps_ret pe_bl)) pss_nil) (pss_cons (ps_for PassesOwn.never rfl (pi_range1 rfl T.n_range (pa_cons (pe_callB (call_lenK K rfl) rfl T.n_len PySem.boot_len (pa_cons (pv 1) pa_nil)) pa_nil)) (pg_name (i := 2) sc_l_like.nd rfl (Or.inl rfl)) (pss_one (ps_if (pt_not (pt_val (pe_call ih hr rfl T.g__law_like T.F_l_like.kp T.b_l_like .nil pass0 (pa_cons (pe_ix (ix_seqK K rfl) (pv 0) (pv 2) (fun _ _ => rfl)) (pa_cons (pe_ix (ix_seqK K rfl) (pv 1) (pv 2) (fun _ _ => rfl)) pa_nil))))) (pss_one (ps_ret pe_bl)) pss_nil))) (pss_one (ps_ret pe_bl)))))))))), ?_⟩
      cases e with
      | non =>
        refine ⟨_, rfl, _, _, _, _, false, rfl, .ty _, (.base .non), kit_ty (by decide +kernel), _, rfl, iteF ?_⟩
        refine ⟨_, rfl, _, _, _, _, false, rfl, .ty _, (.base .non), kit_ty (by decide +kernel), _, rfl, iteF ?_⟩
        refine ⟨_, rfl, _, _, _, _, false, rfl, .ty _, (.base .non), kit_ty (by decide +kernel), _, rfl, iteF ?_⟩
        refine ⟨_, rfl, rfl, _, rfl, iteT ?_⟩
        exact ⟨_, rfl, rfl, k⟩
      | int _ i =>
        refine ⟨_, rfl, _, _, _, _, false, rfl, .ty _, (.base (.int i)), kit_ty (by decide +kernel), _, rfl, iteF ?_⟩
        refine ⟨_, rfl, _, _, _, _, false, rfl, .ty _, (.base (.int i)), kit_ty (by decide +kernel), _, rfl, iteF ?_⟩
        refine ⟨_, rfl, _, _, _, _, true, rfl, .ty _, (.base (.int i)), kit_ty (by decide +kernel), _, rfl, iteT ?_⟩
        refine ⟨_, rfl, _, _, _, _, true, rfl, .ty _, (.base (.int i)), kit_ty (by decide +kernel), _, rfl, iteT ?_⟩
        refine ⟨_, rfl, _, _, _, _, false, rfl, .ty _, (.base (.int i)), kit_ty (by decide +kernel), _, rfl, _, rfl, iteT ?_⟩
        refine ⟨_, rfl, _, rfl, rfl, ?_⟩
        rw [decide_eq_true rfl]; exact k
      | str _ z =>
        refine ⟨_, rfl, _, _, _, _, false, rfl, .ty _, (.base (.str z)), kit_ty (by decide +kernel), _, rfl, iteF ?_⟩
        refine ⟨_, rfl, _, _, _, _, true, rfl, .ty _, (.base (.str z)), kit_ty (by decide +kernel), _, rfl, iteT ?_⟩
        refine ⟨_, rfl, _, _, _, _, true, rfl, .ty _, (.base (.str z)), kit_ty (by decide +kernel), _, rfl, iteT ?_⟩
        refine ⟨_, rfl, _, rfl, rfl, ?_⟩
        rw [decide_eq_true rfl]; exact k
      | @lst _ a b xs ys ha hb hl hz hi =>
        have ta := tyx_list ha
        have tb := tyx_list hb
        refine ⟨_, rfl, _, _, _, _, false, rfl, .ty _, tb, kit_ty (by decide +kernel), _, rfl, iteF ?_⟩
        refine ⟨_, rfl, _, _, _, _, false, rfl, .ty _, tb, kit_ty (by decide +kernel), _, rfl, iteF ?_⟩
        refine ⟨_, rfl, _, _, _, _, false, rfl, .ty _, tb, kit_ty (by decide +kernel), _, rfl, iteF ?_⟩
        refine ⟨_, rfl, rfl, _, rfl, iteF ?_⟩
        refine ⟨_, rfl, _, _, _, _, false, rfl, .ty _, tb, kit_ty (by decide +kernel), _, rfl, iteF ?_⟩
        refine ⟨_, rfl, _, _, _, _, false, rfl, .ty _, tb, kit_ty (by decide +kernel), _, rfl, _, _, _, _, false, rfl, .ty _, ta, kit_ty (by decide +kernel), rfl, _, rfl, iteF ?_⟩
        refine ⟨_, rfl, _, _, _, _, true, rfl, .ty _, tb, kit_ty (by decide +kernel), _, rfl, _, _, _, _, true, rfl, .ty _, ta, kit_ty (by decide +kernel), rfl, _, rfl, iteF ?_⟩
        refine ⟨_, rfl, a, xs, rfl, .inl ha, _, rfl, b, ys, rfl, .inl hb, rfl, _, rfl, ?_⟩
        rw [hl]
        refine ifF (by simp) ?_
        refine ⟨_, rfl, b, ys, rfl, .inl hb, (ys.length : Int), rfl, by omega, by omega, ?_⟩
        refine for_range (lo := 0) (n := ((ys.length : Nat) : Int).toNat) (fun i σ H' => ∃ v : Option V, H' = H ∧ σ = [some (.ref a), some (.ref b), v, none]) ⟨none, rfl, rfl⟩ ?_ ?_
        · rintro i σ H' hlt ⟨v, rfl, rfl⟩
          have i2 : i < ys.length := by omega
          have i1 : i < xs.length := by omega
          have z1 : xs[i]? = some xs[i] := List.getElem?_eq_getElem i1
          have z2 : ys[i]? = some ys[i] := List.getElem?_eq_getElem i2
          have ei : (0 : Int) + (i : Int) = (i : Int) := by omega
          refine ⟨_, rfl, _, rfl, .inl ⟨a, xs, _, xs[i], rfl, rfl, ha, by rw [ei]; exact atI_nat z1, _, rfl, _, rfl, .inl ⟨b, ys, _, ys[i], rfl, rfl, hb, by rw [ei]; exact atI_nat z2, ?_⟩⟩⟩
          exact ⟨xs[i], ys[i], rfl, hi i _ _ z1 z2, _, rfl, iteF ⟨_, rfl, rfl⟩⟩
        · rintro σ H' ⟨v, rfl, rfl⟩
          exact k
      | @tup _ a b xs ys ha hb hl hz hi =>
        have ta := tyx_tup ha
        have tb := tyx_tup hb
        refine ⟨_, rfl, _, _, _, _, false, rfl, .ty _, tb, kit_ty (by decide +kernel), _, rfl, iteF ?_⟩
        refine ⟨_, rfl, _, _, _, _, false, rfl, .ty _, tb, kit_ty (by decide +kernel), _, rfl, iteF ?_⟩
        refine ⟨_, rfl, _, _, _, _, false, rfl, .ty _, tb, kit_ty (by decide +kernel), _, rfl, iteF ?_⟩
        refine ⟨_, rfl, rfl, _, rfl, iteF ?_⟩
        refine ⟨_, rfl, _, _, _, _, false, rfl, .ty _, tb, kit_ty (by decide +kernel), _, rfl, iteF ?_⟩
        refine ⟨_, rfl, _, _, _, _, true, rfl, .ty _, tb, kit_ty (by decide +kernel), _, rfl, _, _, _, _, true, rfl, .ty _, ta, kit_ty (by decide +kernel), rfl, _, rfl, iteF ?_⟩
        refine ⟨_, rfl, _, _, _, _, false, rfl, .ty _, tb, kit_ty (by decide +kernel), _, rfl, _, _, _, _, false, rfl, .ty _, ta, kit_ty (by decide +kernel), rfl, _, rfl, iteF ?_⟩
        refine ⟨_, rfl, a, xs, rfl, .inr ha, _, rfl, b, ys, rfl, .inr hb, rfl, _, rfl, ?_⟩
        rw [hl]
        refine ifF (by simp) ?_
        refine ⟨_, rfl, b, ys, rfl, .inr hb, (ys.length : Int), rfl, by omega, by omega, ?_⟩
        refine for_range (lo := 0) (n := ((ys.length : Nat) : Int).toNat) (fun i σ H' => ∃ v : Option V, H' = H ∧ σ = [some (.ref a), some (.ref b), v, none]) ⟨none, rfl, rfl⟩ ?_ ?_
        · rintro i σ H' hlt ⟨v, rfl, rfl⟩
          have i2 : i < ys.length := by omega
          have i1 : i < xs.length := by omega
          have z1 : xs[i]? = some xs[i] := List.getElem?_eq_getElem i1
          have z2 : ys[i]? = some ys[i] := List.getElem?_eq_getElem i2
          have ei : (0 : Int) + (i : Int) = (i : Int) := by omega
          refine ⟨_, rfl, _, rfl, .inr (.inl ⟨a, xs, _, xs[i], rfl, rfl, ha, by rw [ei]; exact atI_nat z1, _, rfl, _, rfl, .inr (.inl ⟨b, ys, _, ys[i], rfl, rfl, hb, by rw [ei]; exact atI_nat z2, ?_⟩)⟩)⟩
          exact ⟨xs[i], ys[i], rfl, hi i _ _ z1 z2, _, rfl, iteF ⟨_, rfl, rfl⟩⟩
        · rintro σ H' ⟨v, rfl, rfl⟩
          exact k
theorem ok_l_does (T : Txt K mg) : FnOk P w K mg base (L2.CX P w) 5 (aG K "_law_does") (fdOf K (aG K "_law_does")) ["_law_wood_here", "_law_deed_here"] (spDoes K) := by
  refine T.F_l_does.ok (CX := L2.CX P w) sc_l_does (fun vs H Q E h => ?_) (fun cdv A outer s H vs Q E hr h => ?_)
  · obtain ⟨_, _, _, _, _, rfl, _⟩ := h; rfl
  · obtain ⟨A, x, W, t, D, rfl, I, hD, hm, k⟩ := h
    refine ⟨_, (pss_cons (ps_if (pt_cmpR op_eq (pe_ix (ix_tupK K rfl) (pv 1) pe_int (fun _ _ => rfl)) pe_str (nomark _)) (pss_one (ps_ret (pe_meth (pv 0) T.cl_Wood T.m_call (ok_Wood_call T) (hr.mono (by decide)) T.b_Wood_call .nil (passes_call (takes_of rfl rfl rfl rfl) (fun _ _ _ _ h => h)) (pa_cons (pe_ix (ix_tupK K rfl) (pv 1) pe_int (fun _ _ => rfl)) (pa_cons (pe_callTy (call_listK K rfl) rfl T.n_list (by decide +kernel) (pa_cons (pe_ix (ix_tupK K rfl) (pv 1) pe_int (fun _ _ => rfl)) pa_nil)) pa_nil))))) pss_nil) (pss_cons (ps_if (pt_cmpR op_eq (pe_ix (ix_tupK K rfl) (pv 1) pe_int (fun _ _ => rfl)) pe_str (nomark _)) (pss_one (ps_ret (pe_meth (pv 0) T.cl_Wood T.m_back (ok_Wood_back T) (hr.mono (by decide)) T.b_Wood_back .nil (passes_call (takes_of rfl rfl rfl rfl) (fun _ _ _ _ h => h)) (pa_cons (pe_ix (ix_tupK K rfl) (pv 1) pe_int (fun _ _ => rfl)) pa_nil)))) pss_nil) (pss_cons (ps_if (pt_cmpR op_eq (pe_ix (ix_tupK K rfl) (pv 1) pe_int (fun _ _ => rfl)) pe_str (nomark _)) (pss_one (ps_ret (pe_meth (pv 0) T.cl_Wood T.m_put (ok_Wood_put T) (hr.mono (by decide)) T.b_Wood_put .nil (passes_call (takes_of rfl rfl rfl rfl) (fun _ _ _ _ h => h)) (pa_cons (pe_ix (ix_tupK K rfl) (pv 1) pe_int (fun _ _ => rfl)) (pa_cons (pe_ix (ix_tupK K rfl) (pv 1) pe_int (fun _ _ => rfl)) (pa_cons (pe_ix (ix_tupK K rfl) (pv 1) pe_int (fun _ _ => rfl)) (pa_cons (pe_ix (ix_tupK K rfl) (pv 1) pe_int (fun _ _ => rfl)) pa_nil))))))) pss_nil) (pss_cons (ps_if (pt_cmpR op_eq (pe_ix (ix_tupK K rfl) (pv 1) pe_int (fun _ _ => rfl)) pe_str (nomark _)) (pss_one (ps_ret (pe_meth (pv 0) T.cl_Wood T.m_branch (ok_Wood_branch T) (hr.mono (by decide)) T.b_Wood_branch .nil (passes_call (takes_of rfl rfl rfl rfl) (fun _ _ _ _ h => h)) (pa_cons (pe_ix (ix_tupK K rfl) (pv 1) pe_int (fun _ _ => rfl)) (pa_cons (pe_ix (ix_tupK K rfl) (pv 1) pe_int (fun _ _ => rfl)) pa_nil))))) pss_nil) (pss_cons (ps_if (pt_cmpR op_eq (pe_ix (ix_tupK K rfl) (pv 1) pe_int (fun _ _ => rfl)) pe_str (nomark _)) (pss_one (ps_ret (pe_meth (pv 0) T.cl_Wood T.m_keep (ok_Wood_keep T) (hr.mono (by decide)) T.b_Wood_keep .nil (passes_call (takes_of rfl rfl rfl rfl) (fun _ _ _ _ h => h)) (pa_cons (pe_ix (ix_tupK K rfl) (pv 1) pe_int (fun _ _ => rfl)) pa_nil)))) pss_nil) (pss_one (ps_ret (pe_ifExp (pt_cmpR op_eq (pe_ix (ix_tupK K rfl) (pv 1) pe_int (fun _ _ => rfl)) pe_str (nomark _)) (pe_meth (pv 0) T.cl_Wood T.m_leap (ok_Wood_leap T) (hr.mono (by decide)) T.b_Wood_leap .nil (passes_call (takes_of rfl rfl rfl rfl) (fun _ _ _ _ h => h)) (pa_cons (pe_ix (ix_tupK K rfl) (pv 1) pe_int (fun _ _ => rfl)) (pa_cons (pe_ix (ix_tupK K rfl) (pv 1) pe_int (fun _ _ => rfl)) pa_nil))) (pe_meth (pv 0) T.cl_Wood T.m_forget (ok_Wood_forget T) (hr.mono (by decide)) T.b_Wood_forget .nil (passes_call (takes_of rfl rfl rfl rfl) (fun _ _ _ _ h => h)) (pa_cons (pe_ix (ix_tupK K rfl) (pv 1) pe_int (fun _ _ => rfl)) pa_nil)))))))))), ?_⟩
    have s0 := I.sub
    have hp := s0 _ _ I.wa.ins
    have ln : ∀ m : Str, (["rooms", "frames", "tops", "marks", "many", "made"] : List Str).contains m = false → (wF W x.fa x.ta x.ma).lookup m = none := fun m h => wf_no h
    cases D with
    | call h zs =>
      obtain ⟨l, ht, hl⟩ := hD
      refine ⟨_, rfl, t, _, _, _, rfl, rfl, SqT.of ht, atI_nat (j := 0) rfl, rfl, _, rfl, ifT (by decide +kernel) ?_⟩
      refine ⟨_, rfl, x.p, _, _, rfl, hp, wf_no (by decide +kernel), _, rfl, t, _, _, _, rfl, rfl, SqT.of ht, atI_nat (j := 1) rfl, _, rfl, t, _, _, _, rfl, rfl, SqT.of ht, atI_nat (j := 2) rfl, l, _, rfl, .inl (SqL.of hl), fun l2 nl2 => ?_⟩
      have e1 := same_new nl2 (.lst (zs.map V.int))
      refine ⟨A, x, W, h, l2, zs, rfl, ⟨((Stp.refl s0).same e1).own, I.wa, I.wf⟩, SqL.of upd_same, ?_⟩
      simp only [doDeed] at k
      cases ec : doCall W h zs with
      | error e => rw [ec] at k; exact fun H' e2 => k H' (e1.trans e2)
      | ok r =>
        obtain ⟨r, W'⟩ := r
        rw [ec] at k
        exact fun A' x' H' hx R' S' => k A' x' H' _ hx R' (((Stp.refl s0).same e1).trans S') rfl (fun l z => by cases z)
    | back h =>
      have ht : H t = _ := hD
      refine ⟨_, rfl, t, _, _, _, rfl, rfl, SqT.of ht, atI_nat (j := 0) rfl, rfl, _, rfl, ifF (by decide +kernel) ?_⟩
      refine ⟨_, rfl, t, _, _, _, rfl, rfl, SqT.of ht, atI_nat (j := 0) rfl, rfl, _, rfl, ifT (by decide +kernel) ?_⟩
      refine ⟨_, rfl, x.p, _, _, rfl, hp, wf_no (by decide +kernel), _, rfl, t, _, _, _, rfl, rfl, SqT.of ht, atI_nat (j := 1) rfl, ?_⟩
      refine ⟨A, x, W, h, rfl, I, ?_⟩
      simp only [doDeed] at k
      cases ec : doBack W h with
      | error e => rw [ec] at k; exact k
      | ok r =>
        obtain ⟨zs, W'⟩ := r
        rw [ec] at k
        exact fun l nl A' x' H' hx R' S' nA hl => k A' x' H' _ hx R' S' ⟨l, rfl, nl, hl⟩ (fun l' z => by cases z; exact nA)
    | put h d sl1 v =>
      have ht : H t = _ := hD
      refine ⟨_, rfl, t, _, _, _, rfl, rfl, SqT.of ht, atI_nat (j := 0) rfl, rfl, _, rfl, ifF (by decide +kernel) ?_⟩
      refine ⟨_, rfl, t, _, _, _, rfl, rfl, SqT.of ht, atI_nat (j := 0) rfl, rfl, _, rfl, ifF (by decide +kernel) ?_⟩
      refine ⟨_, rfl, t, _, _, _, rfl, rfl, SqT.of ht, atI_nat (j := 0) rfl, rfl, _, rfl, ifT (by decide +kernel) ?_⟩
      refine ⟨_, rfl, x.p, _, _, rfl, hp, wf_no (by decide +kernel), _, rfl, t, _, _, _, rfl, rfl, SqT.of ht, atI_nat (j := 1) rfl, _, rfl, t, _, _, _, rfl, rfl, SqT.of ht, atI_nat (j := 2) rfl, _, rfl, t, _, _, _, rfl, rfl, SqT.of ht, atI_nat (j := 3) rfl, _, rfl, t, _, _, _, rfl, rfl, SqT.of ht, atI_nat (j := 4) rfl, ?_⟩
      refine ⟨A, x, W, h, d, sl1, v, rfl, I, ?_⟩
      simp only [doDeed] at k
      cases ec : doPut W h d sl1 v with
      | error e => rw [ec] at k; exact k
      | ok r =>
        obtain ⟨n, W'⟩ := r
        rw [ec] at k
        exact fun A' x' H' hx R' S' => k A' x' H' _ hx R' S' rfl (fun l z => by cases z)
    | branch h o =>
      have ht : H t = _ := hD
      refine ⟨_, rfl, t, _, _, _, rfl, rfl, SqT.of ht, atI_nat (j := 0) rfl, rfl, _, rfl, ifF (by decide +kernel) ?_⟩
      refine ⟨_, rfl, t, _, _, _, rfl, rfl, SqT.of ht, atI_nat (j := 0) rfl, rfl, _, rfl, ifF (by decide +kernel) ?_⟩
      refine ⟨_, rfl, t, _, _, _, rfl, rfl, SqT.of ht, atI_nat (j := 0) rfl, rfl, _, rfl, ifF (by decide +kernel) ?_⟩
      refine ⟨_, rfl, t, _, _, _, rfl, rfl, SqT.of ht, atI_nat (j := 0) rfl, rfl, _, rfl, ifT (by decide +kernel) ?_⟩
      refine ⟨_, rfl, x.p, _, _, rfl, hp, wf_no (by decide +kernel), _, rfl, t, _, _, _, rfl, rfl, SqT.of ht, atI_nat (j := 1) rfl, _, rfl, t, _, _, _, rfl, rfl, SqT.of ht, atI_nat (j := 2) rfl, ?_⟩
      refine ⟨A, x, W, h, o, rfl, I, ?_⟩
      simp only [doDeed] at k
      cases ec : doBranch W h o with
      | error e => rw [ec] at k; exact k
      | ok W' =>
        rw [ec] at k
        exact fun A' x' H' hx R' S' => k A' x' H' _ hx R' S' rfl (fun l z => by cases z)
    | keep h =>
      have ht : H t = _ := hD
      refine ⟨_, rfl, t, _, _, _, rfl, rfl, SqT.of ht, atI_nat (j := 0) rfl, rfl, _, rfl, ifF (by decide +kernel) ?_⟩
      refine ⟨_, rfl, t, _, _, _, rfl, rfl, SqT.of ht, atI_nat (j := 0) rfl, rfl, _, rfl, ifF (by decide +kernel) ?_⟩
      refine ⟨_, rfl, t, _, _, _, rfl, rfl, SqT.of ht, atI_nat (j := 0) rfl, rfl, _, rfl, ifF (by decide +kernel) ?_⟩
      refine ⟨_, rfl, t, _, _, _, rfl, rfl, SqT.of ht, atI_nat (j := 0) rfl, rfl, _, rfl, ifF (by decide +kernel) ?_⟩
      refine ⟨_, rfl, t, _, _, _, rfl, rfl, SqT.of ht, atI_nat (j := 0) rfl, rfl, _, rfl, ifT (by decide +kernel) ?_⟩
      refine ⟨_, rfl, x.p, _, _, rfl, hp, wf_no (by decide +kernel), _, rfl, t, _, _, _, rfl, rfl, SqT.of ht, atI_nat (j := 1) rfl, ?_⟩
      refine ⟨A, x, W, h, rfl, I, by omega, ?_⟩
      simp only [doDeed] at k
      cases ec : doKeep W h with
      | error e => rw [ec] at k; exact k
      | ok r =>
        obtain ⟨n, W'⟩ := r
        rw [ec] at k
        exact fun A' x' H' hx R' S' => k A' x' H' _ hx R' S' rfl (fun l z => by cases z)
    | leap h p =>
      have ht : H t = _ := hD
      refine ⟨_, rfl, t, _, _, _, rfl, rfl, SqT.of ht, atI_nat (j := 0) rfl, rfl, _, rfl, ifF (by decide +kernel) ?_⟩
      refine ⟨_, rfl, t, _, _, _, rfl, rfl, SqT.of ht, atI_nat (j := 0) rfl, rfl, _, rfl, ifF (by decide +kernel) ?_⟩
      refine ⟨_, rfl, t, _, _, _, rfl, rfl, SqT.of ht, atI_nat (j := 0) rfl, rfl, _, rfl, ifF (by decide +kernel) ?_⟩
      refine ⟨_, rfl, t, _, _, _, rfl, rfl, SqT.of ht, atI_nat (j := 0) rfl, rfl, _, rfl, ifF (by decide +kernel) ?_⟩
      refine ⟨_, rfl, t, _, _, _, rfl, rfl, SqT.of ht, atI_nat (j := 0) rfl, rfl, _, rfl, ifF (by decide +kernel) ?_⟩
      refine ⟨_, rfl, t, _, _, _, rfl, rfl, SqT.of ht, atI_nat (j := 0) rfl, rfl, _, rfl, ifT (by decide +kernel) ?_⟩
      refine ⟨_, rfl, x.p, _, _, rfl, hp, wf_no (by decide +kernel), _, rfl, t, _, _, _, rfl, rfl, SqT.of ht, atI_nat (j := 1) rfl, _, rfl, t, _, _, _, rfl, rfl, SqT.of ht, atI_nat (j := 2) rfl, ?_⟩
      refine ⟨A, x, W, h, p, rfl, I, ?_⟩
      simp only [doDeed] at k
      cases ec : doLeap W h p with
      | error e => rw [ec] at k; exact k
      | ok W' =>
        rw [ec] at k
        exact fun A' x' H' hx R' S' => k A' x' H' _ hx R' S' rfl (fun l z => by cases z)
    | forget p =>
      have ht : H t = _ := hD
      refine ⟨_, rfl, t, _, _, _, rfl, rfl, SqT.of ht, atI_nat (j := 0) rfl, rfl, _, rfl, ifF (by decide +kernel) ?_⟩
      refine ⟨_, rfl, t, _, _, _, rfl, rfl, SqT.of ht, atI_nat (j := 0) rfl, rfl, _, rfl, ifF (by decide +kernel) ?_⟩
      refine ⟨_, rfl, t, _, _, _, rfl, rfl, SqT.of ht, atI_nat (j := 0) rfl, rfl, _, rfl, ifF (by decide +kernel) ?_⟩
      refine ⟨_, rfl, t, _, _, _, rfl, rfl, SqT.of ht, atI_nat (j := 0) rfl, rfl, _, rfl, ifF (by decide +kernel) ?_⟩
      refine ⟨_, rfl, t, _, _, _, rfl, rfl, SqT.of ht, atI_nat (j := 0) rfl, rfl, _, rfl, ifF (by decide +kernel) ?_⟩
      refine ⟨_, rfl, t, _, _, _, rfl, rfl, SqT.of ht, atI_nat (j := 0) rfl, rfl, _, rfl, ifF (by decide +kernel) ?_⟩
      refine ⟨_, rfl, x.p, _, _, rfl, hp, wf_no (by decide +kernel), _, rfl, t, _, _, _, rfl, rfl, SqT.of ht, atI_nat (j := 1) rfl, ?_⟩
      refine ⟨A, x, W, p, rfl, I, ?_⟩
      simp only [doDeed] at k
      cases ec : doForget W p with
      | error e => rw [ec] at k; exact k
      | ok W' =>
        rw [ec] at k
        exact fun A' x' H' hx R' S' => k A' x' H' _ hx R' S' rfl (fun l z => by cases z)
end
end Sk
end
section
/-! SwL3: what is told by a work that may be refused. -/
namespace Sk
open PySem PySem.Spec PyProof.Rows L2 SW
/-- told(lambda: ..): the lambda's value, or the word of its refusal -/
def TTold (K : PySem.W.Frag) : (XK → Hp → VK → Prop) → Hp → VK → Prop := fun tl H Q =>
  tl (fun cls d H' => ∃ er : Er, ern er ∈ exN ∧ cls = eC K (ern er) ∧ d = none ∧ ∀ H'', Same H' H'' → Q (.str (ern er)) H'') H Q
/-- the answers of isinstance, one by one -/
def isL (x : Str) : List Bool := exN.map fun y => decide (x = y)
section
variable {K : PySem.W.Frag} {mg : Str → Option Value}
theorem isE {K : PySem.W.Frag} {mg : Str → Option Value} (T : Txt K mg) {H : Hp} {Q : VK} {a : Addr} {x y : Str} (hx : x ∈ exN) (hy : y ∈ exN) (q : Q (.bl (decide (x = y))) H) : rIsE K (He.ga K x) a [.ref a, .ref (He.ga K y)] H Q :=
  ⟨_, _, _, rfl, fun u h => h, T.exX x hx y hy, q⟩
theorem tell_exm (T : Txt K mg) {er : Er} (h : ern er ∈ exN) : PySem.W.exmOne K (eC K (ern er)) (eC K "WoodError") = some true := by
  cases er with
  | hand => exact T.xm_NoHand
  | place => exact T.xm_NoPlace
  | call => exact T.xm_NoCall
  | slot => exact T.xm_NoSlot
  | room => exact T.xm_NoRoom
def ts_told (K : PySem.W.Frag) : Addr → Value → Option Addr → TS := fun a cls d D σ H => ∃ (er : Er) (σ' : L2.St), ern er ∈ exN ∧ cls = eC K (ern er) ∧ d = none ∧ σ = σ'.set 1 (some (.ref a)) ∧ ∀ H', Same H H' → D.rt (.str (ern er)) H'
theorem call_isEK {X : Cx} {K : PySem.W.Frag} {a D : Addr} {oe : Obj} {pn : List (Addr × Obj)} (C : ExcC K D) (hz : Zc (.ref D) none oe) (hf : ∃ vs, oe.data = .fields vs) (hK : X.K = K := by rfl) : CallR (X.suite a ((a, oe) :: pn)) (.builtin "isinstance") (rIsE K D a) := by
  subst hK; exact call_isE C hz hf
theorem pss_by {X : Cx} {st : List Stmt} {t' : TS} (k : ∀ pins s σ H D, Inv X pins σ H s → t' D σ H → ∃ t : TS, PSs X st t ∧ t D σ H) : PSs X st t' :=
  ⟨fun pins s σ H D I h' => by obtain ⟨t, h, ht⟩ := k pins s σ H D I h'; exact h.run pins s σ H D I ht⟩
theorem ahead {ys : List V} {j : Nat} {y : V} (h : ((ys.take j).all fun z => !eqV z y) = true) : ∀ (m : Nat) (z' : V), m < j → ys[m]? = some z' → eqV z' y = false := fun m z' hm hz => by
  have hmem : z' ∈ ys.take j := List.mem_of_getElem? (i := m) (by rw [List.getElem?_take_of_lt hm]; exact hz)
  have := List.all_eq_true.mp h z' hmem
  simpa using this
def erJ : Er → Nat
  | .hand => 1
  | .place => 2
  | .call => 3
  | .slot => 4
  | .room => 5
theorem told_gives (T : Txt K mg) {X : Cx} (hK : X.K = K) (hm : X.mg = mg) {q : Str} {g : Addr} {cdg : Value} :
    LamX.GivesTo X ["_law_work", "e", "_law_kinds", "_law_words"] "_law_told" (defScope s_l_told) g cdg (defBody s_l_told) "_law_work" q (TTold K) := by
  subst hK hm
  intro f c' s H Q tl act hc h
  let Z := (cxOf C8.CX0 X.prog X.w X.K X.mg X.base ["_law_work", "e", "_law_kinds", "_law_words"] "_law_told" (defScope s_l_told) g cdg X.A X.stack s H C8.E0).nox
  refine ⟨_, pss_one (ps_try_as (X := Z) (i := 1) (c := eC X.K "WoodError")
      (tb := fun W D σ H => ∃ Ech : XK, (∀ cls d σ' H', Ech cls d H' → W cls d σ' H') ∧ σ[0]? = some (some (.ref f)) ∧ H c' = some (LamX.CodeO c' q) ∧ tl Ech H D.rt) (ts := ts_told X.K) (Wout := fun _ _ _ _ => False)
      rfl rfl sc_l_told.nd rfl rfl ⟨rfl, by decide, .inl T.g_WoodError⟩ LamX.takes0 (fun W pn xe tk _ => ?_) (fun a oe cls d pn hz hf => ?_)), ?_⟩
  · refine ⟨fun pins s' σ H' D I h' => ?_⟩
    obtain ⟨Ech, hW, h1, h2, h3⟩ := h'
    exact PSs.run (pss_one (ps_ret (act W pn xe Ech _ _ tk hW))) pins s' σ H' D I ⟨h1, h2, h3⟩
  · refine pss_by fun pins s' σ H' D I h' => ?_
    obtain ⟨er, σ', hx, rfl, rfl, rfl, kk⟩ := h'
    have hl : (σ'.set 1 (some (V.ref a))).length = 4 := I.len
    have he : (σ'.set 1 (some (V.ref a)))[1]? = some (some (V.ref a)) := by
      rw [List.length_set] at hl
      rw [List.getElem?_set_self (by omega)]
    generalize hσ : σ'.set 1 (some (V.ref a)) = σ at he hl I
    obtain ⟨x0, x1, x2, x3, rfl⟩ : ∃ x0 x1 x2 x3, σ = [x0, x1, x2, x3] := by
      match σ, hl with
      | [x0, x1, x2, x3], _ => exact ⟨x0, x1, x2, x3, rfl⟩
    have hx1 : x1 = some (V.ref a) := by simpa using he
    subst hx1
    have C := T.exC _ hx
    refine ⟨_, (pss_cons (ps_set (i := 2) sc_l_told.nd rfl (Or.inl rfl) (pe_lst (pa_cons (pe_callB (call_isEK C hz hf) rfl T.n_isinstance (by decide +kernel) (pa_cons (pv 1) (pa_cons (pe_glob (v := .ref _) rfl T.g_BadWood rfl) pa_nil))) (pa_cons (pe_callB (call_isEK C hz hf) rfl T.n_isinstance (by decide +kernel) (pa_cons (pv 1) (pa_cons (pe_glob (v := .ref _) rfl T.g_NoHand rfl) pa_nil))) (pa_cons (pe_callB (call_isEK C hz hf) rfl T.n_isinstance (by decide +kernel) (pa_cons (pv 1) (pa_cons (pe_glob (v := .ref _) rfl T.g_NoPlace rfl) pa_nil))) (pa_cons (pe_callB (call_isEK C hz hf) rfl T.n_isinstance (by decide +kernel) (pa_cons (pv 1) (pa_cons (pe_glob (v := .ref _) rfl T.g_NoCall rfl) pa_nil))) pa_nil)))))) (pss_cons (ps_set (i := 2) sc_l_told.nd rfl (Or.inl rfl) (pe_op op_cat (pv 2) (pe_lst (pa_cons (pe_callB (call_isEK C hz hf) rfl T.n_isinstance (by decide +kernel) (pa_cons (pv 1) (pa_cons (pe_glob (v := .ref _) rfl T.g_NoSlot rfl) pa_nil))) (pa_cons (pe_callB (call_isEK C hz hf) rfl T.n_isinstance (by decide +kernel) (pa_cons (pv 1) (pa_cons (pe_glob (v := .ref _) rfl T.g_NoRoom rfl) pa_nil))) pa_nil))))) (pss_cons (ps_set (i := 3) sc_l_told.nd rfl (Or.inl rfl) (pe_lst (pa_cons pe_str (pa_cons pe_str (pa_cons pe_str (pa_cons pe_str (pa_cons pe_str (pa_cons pe_str pa_nil)))))))) (pss_one (ps_ret (pe_ifExp (PW.pt (pw_and (pt_cmpR op_eq (pe_bm PySem.F.plainAttrs_list PySem.F.slot_list_count PySem.F.type_list_count (mt_countB (K := X.K) rfl) (pv 2) (pa_cons pe_bl pa_nil)) pe_int (nomark _)) (pw_and1 (pt_val (pe_callB (call_isEK C hz hf) rfl T.n_isinstance (by decide +kernel) (pa_cons (pv 1) (pa_cons (pe_bltn (v := .ty "ValueError") rfl T.n_ValueError (by decide +kernel) rfl) pa_nil))))))) (pe_ix (ix_listK X.K rfl) (pv 3) (pe_bm PySem.F.plainAttrs_list PySem.F.slot_list_index PySem.F.type_list_index mt_index (pv 2) (pa_cons pe_bl pa_nil)) (fun _ _ => rfl)) pe_str)))))), ?_⟩
    have m0 : ("BadWood" : Str) ∈ exN := by decide +kernel
    have m1 : ("NoHand" : Str) ∈ exN := by decide +kernel
    have m2 : ("NoPlace" : Str) ∈ exN := by decide +kernel
    have m3 : ("NoCall" : Str) ∈ exN := by decide +kernel
    have m4 : ("NoSlot" : Str) ∈ exN := by decide +kernel
    have m5 : ("NoRoom" : Str) ∈ exN := by decide +kernel
    refine ⟨_, rfl, _, _, _, rfl, fun u h => h, T.exX _ hx _ m0, _, rfl, _, _, _, rfl, fun u h => h, T.exX _ hx _ m1, _, rfl, _, _, _, rfl, fun u h => h, T.exX _ hx _ m2, _, rfl, _, _, _, rfl, fun u h => h, T.exX _ hx _ m3, by show 4 ≤ sizeLine; exact sz (by omega), fun l1 n1 => ?_⟩
    refine ⟨_, rfl, _, rfl, _, _, _, rfl, fun u h => h, T.exX _ hx _ m4, _, rfl, _, _, _, rfl, fun u h => h, T.exX _ hx _ m5, by show 2 ≤ sizeLine; exact sz (by omega), fun l2 n2 => ?_⟩
    have n12 : l1 ≠ l2 := ne_of_none upd_same n2
    refine ⟨l1, l2, _, _, rfl, rfl, (upd_ne n12).trans upd_same, upd_same, by show 4 + 2 ≤ sizeLine; exact sz (by omega), fun l3 n3 => ?_⟩
    refine ⟨by show 6 ≤ sizeLine; exact sz (by omega), fun l4 n4 => ?_⟩
    have n34 : l3 ≠ l4 := ne_of_none upd_same n4
    have S4 := (((same_new n1 (.lst [V.bl (decide (ern er = "BadWood")), V.bl (decide (ern er = "NoHand")), V.bl (decide (ern er = "NoPlace")), V.bl (decide (ern er = "NoCall"))])).trans (same_new n2 (.lst [V.bl (decide (ern er = "NoSlot")), V.bl (decide (ern er = "NoRoom"))]))).trans (same_new n3 (.lst ([V.bl (decide (ern er = "BadWood")), V.bl (decide (ern er = "NoHand")), V.bl (decide (ern er = "NoPlace")), V.bl (decide (ern er = "NoCall"))] ++ [V.bl (decide (ern er = "NoSlot")), V.bl (decide (ern er = "NoRoom"))])))).trans (same_new n4 (.lst [V.str "BadWood", V.str "NoHand", V.str "NoPlace", V.str "NoCall", V.str "NoSlot", V.str "NoRoom"]))
    have hk3 : ∀ {ys : List V} {HH : Hp}, HH l3 = some (.lst ys) → HH l3 = some (.lst ys) := fun h => h
    refine ⟨_, rfl, .inl ⟨rfl, _, SqL.of ((upd_ne n34).trans upd_same)⟩, l3, [decide (ern er = "BadWood"), decide (ern er = "NoHand"), decide (ern er = "NoPlace"), decide (ern er = "NoCall"), decide (ern er = "NoSlot"), decide (ern er = "NoRoom")], true, rfl, rfl, SqL.of ((upd_ne n34).trans upd_same), rfl, _, rfl, ifT (by cases er <;> decide +kernel) ?_⟩
    refine ⟨_, rfl, _, _, _, rfl, fun u h => h, T.exV _ hx, _, rfl, iteT ?_⟩
    refine ⟨_, rfl, _, rfl, .inl ⟨rfl, _, SqL.of ((upd_ne n34).trans upd_same)⟩, l3, _, V.bl true, erJ er, V.bl true, rfl, rfl, SqL.of ((upd_ne n34).trans upd_same), rfl, rfl, by cases er <;> decide +kernel, rfl, ahead (by cases er <;> decide +kernel), ?_⟩
    exact ⟨l4, _, _, V.str (ern er), rfl, rfl, SqL.of upd_same, atI_nat (by cases er <;> rfl), kk _ S4⟩
  · exact ⟨_, fun cls d σ' H' ⟨er, h1, h2, h3, h4⟩ => ⟨true, by rw [h2]; exact tell_exm T h1, fun _ a _ => ⟨er, σ', h1, h2, h3, rfl, h4⟩, fun hb => by cases hb⟩, rfl, hc, h⟩
end
end Sk
end
section
/-! SwN: piles of lists that stand apart; what a deed makes of them. -/
namespace Sk
open SW
structure Nl where
  piles : List (List (List Int))
  kept : List (Int × List (List Int))
  many : Int
def pile (N : Nl) (h : Int) : List (List Int) := N.piles.getD h.toNat []
def canN (N : Nl) : Deed → Bool
  | .call _ _ => true
  | .back h => !(pile N h).isEmpty
  | .put h d s _ => decide (d < ((pile N h).length : Int)) && decide (s < (((pile N h).getD d.toNat []).length : Int))
  | .branch _ _ => true
  | .keep _ => true
  | .leap _ p => has N.kept p
  | .forget p => has N.kept p
def apN (N : Nl) : Deed → Nl
  | .call h vs => { N with piles := N.piles.set h.toNat (vs :: pile N h) }
  | .back h => { N with piles := N.piles.set h.toNat ((pile N h).drop 1) }
  | .put h d s v => { N with piles := N.piles.set h.toNat ((pile N h).set d.toNat (((pile N h).getD d.toNat []).set s.toNat v)) }
  | .branch h o => { N with piles := N.piles.set o.toNat (pile N h) }
  | .keep h => { N with kept := N.kept ++ [(N.many, pile N h)], many := N.many + 1 }
  | .leap h p => { N with piles := N.piles.set h.toNat ((lk N.kept p).getD []) }
  | .forget p => { N with kept := dr N.kept p }
/-- what apart's lists say of a wood -/
def nl (W : Wd) : Nl := ⟨vals W, kept W, W.many⟩
/-- the hands of a deed are hands -/
def InD (hands : Int) : Deed → Prop
  | .call h vs => (0 ≤ h ∧ h < hands) ∧ vs.length ≤ 3
  | .back h => 0 ≤ h ∧ h < hands
  | .put h d s _ => (0 ≤ h ∧ h < hands) ∧ 0 ≤ d ∧ 0 ≤ s
  | .branch h o => (0 ≤ h ∧ h < hands) ∧ 0 ≤ o ∧ o < hands
  | .keep h => 0 ≤ h ∧ h < hands
  | .leap h _ => 0 ≤ h ∧ h < hands
  | .forget _ => True
theorem Drawn.inD {hands deep places : Int} {D : Deed} (h : Drawn hands deep places D) : InD hands D := by
  cases D with
  | call h vs => exact ⟨h.1, h.2.1⟩
  | back h => exact h
  | put h d s v => exact ⟨h.1, h.2.1.1, h.2.2.1.1⟩
  | branch h o => exact h
  | keep h => exact h
  | leap h p => exact h.1
  | forget p => trivial
theorem lk_kept (W : Wd) (p : Int) : lk (kept W) p = (lk W.marks p).map (vl W.frames) := by
  unfold kept
  generalize W.frames = fs
  induction W.marks with
  | nil => rfl
  | cons a l ih =>
    obtain ⟨j, x⟩ := a
    by_cases e : j = p
    · simp [lk, e]
    · simp only [List.map_cons, lk, if_neg e]; exact ih
theorem has_kept (W : Wd) (p : Int) : has (kept W) p = has W.marks p := by
  unfold has; rw [lk_kept]; cases lk W.marks p <;> rfl
theorem ks_kept (W : Wd) : ks (kept W) = ks W.marks := by
  unfold kept ks; rw [List.map_map]; rfl
theorem len_kept (W : Wd) : (kept W).length = W.marks.length := by unfold kept; rw [List.length_map]
theorem len_vals (W : Wd) : (vals W).length = W.tops.length := by unfold vals; rw [List.length_map]
theorem pile_nl {W : Wd} {h : Int} (k : hOk W h) : pile (nl W) h = vl W.frames (top W h) := by
  show (vals W).getD h.toNat [] = _
  unfold vals
  rw [List.getD_eq_getElem?_getD, List.getElem?_map, top_get k]; rfl
theorem vl_len {W : Wd} (F : WFW W) {x : Option Int} (hx : ∀ r, x = some r → ∃ f, lk W.frames r = some f) : (vl W.frames x).length ≤ 40 := by
  unfold vl; rw [List.length_map]
  exact Nat.le_trans (F.wf.path x hx).len F.len
/-- a refusal of what can be done is for want of rooms, at a call or a put -/
def Dear : Deed → Bool
  | .call _ _ => true
  | .put _ _ _ _ => true
  | _ => false
/-- what came of it -/
structure Did (W : Wd) (D : Deed) (r : Res) (W' : Wd) : Prop where
  wf : WFW W'
  nl : nl W' = apN (nl W) D
  tops : W'.tops.length = W.tops.length
  back : ∀ h, D = .back h → ∃ vs t, r = .lst vs ∧ pile (Sk.nl W) h = vs :: t
def Dids (W : Wd) (D : Deed) (x : Except Er (Res × Wd)) : Prop := match x with
  | .error e => e = .room ∧ Dear D = true
  | .ok (r, W') => Did W D r W'
theorem Nl.ext' {a b : Nl} (h1 : a.piles = b.piles) (h2 : a.kept = b.kept) (h3 : a.many = b.many) : a = b := by
  cases a; cases b; simp_all
theorem len_set {W W' : Wd} {i : Nat} {z : List (List Int)} (h : vals W' = (vals W).set i z) : W'.tops.length = W.tops.length := by
  have := congrArg List.length h
  rw [List.length_set, len_vals, len_vals] at this; exact this
theorem did {W : Wd} (F : WFW W) {D : Deed} (hD : InD (W.tops.length : Int) D) (c : canN (nl W) D = true) : Dids W D (doDeed W D) := by
  cases D with
  | call h vs =>
    have k : hOk W h := hD.1
    have k3 := hD.2
    cases e : doCall W h vs with
    | error x =>
      simp only [doDeed, e, okM, Dids]
      refine ⟨?_, rfl⟩
      unfold doCall at e
      rw [if_neg (fun z => z k), if_neg (by omega)] at e
      split at e
      · cases e; rfl
      · cases e
    | ok q =>
      obtain ⟨r, W'⟩ := q
      simp only [doDeed, e, okM, Dids]
      obtain ⟨_, f, h1, h2, _, h4, _⟩ := doCall_ok F e
      exact ⟨f, Nl.ext' (by show vals W' = _; rw [h1, ← pile_nl k]; rfl) h2 h4, len_set h1, fun h z => by cases z⟩
  | back h =>
    have k : hOk W h := hD
    have c : (!(pile (nl W) h).isEmpty) = true := c
    cases e : doBack W h with
    | error x =>
      exfalso
      unfold doBack at e
      rw [if_neg (fun z => z k)] at e
      rw [pile_nl k] at c
      cases et : top W h with
      | none => rw [et, vl_nil] at c; simp at c
      | some r =>
        obtain ⟨f, hf⟩ := F.topIn h r et
        rw [et] at e; simp only [hf] at e; cases e
    | ok q =>
      obtain ⟨vs, W'⟩ := q
      simp only [doDeed, e, okM, Dids]
      obtain ⟨_, f, ⟨t, ht, h1⟩, h2, h4, _⟩ := doBack_ok F e
      refine ⟨f, Nl.ext' (by show vals W' = (vals W).set h.toNat ((pile (nl W) h).drop 1); rw [h1, pile_nl k, ht]; rfl) h2 h4, len_set h1, fun h' z => ?_⟩
      cases z
      exact ⟨vs, t, rfl, by rw [pile_nl k]; exact ht⟩
  | put h d s v =>
    have k : hOk W h := hD.1
    have c : (decide (d < ((pile (nl W) h).length : Int)) && decide (s < (((pile (nl W) h).getD d.toNat []).length : Int))) = true := c
    rw [Bool.and_eq_true, decide_eq_true_eq, decide_eq_true_eq, pile_nl k] at c
    cases e : doPut W h d s v with
    | error x =>
      simp only [doDeed, e, okM, Dids]
      refine ⟨?_, rfl⟩
      have lv : (vl W.frames (top W h)).length = (path W.frames (top W h)).length := by unfold vl; rw [List.length_map]
      have hd := hD.2.1
      have hs := hD.2.2
      unfold doPut doWay at e
      rw [if_neg (fun z => z k), if_neg (fun z => z ⟨hd, by omega⟩)] at e
      simp only at e
      have dn : d.toNat < (path W.frames (top W h)).length := by omega
      have qd : ((path W.frames (top W h)).take (d.toNat + 1)).getD d.toNat 0 = (path W.frames (top W h))[d.toNat] := by
        rw [List.getD_eq_getElem?_getD, List.getElem?_take_of_lt (by omega), List.getElem?_eq_getElem dn]; rfl
      have vd : (vl W.frames (top W h)).getD d.toNat [] = sl W.frames (path W.frames (top W h))[d.toNat] := by
        unfold vl
        rw [List.getD_eq_getElem?_getD, List.getElem?_map, List.getElem?_eq_getElem dn]; rfl
      rw [vd] at c
      rw [qd, if_neg (fun z => z ⟨hs, c.2⟩)] at e
      split at e
      · cases e
      · split at e
        · cases e; rfl
        · cases e
    | ok q =>
      obtain ⟨n, W'⟩ := q
      simp only [doDeed, e, okM, Dids]
      have P := doPut_ok F e
      exact ⟨P.wfw, Nl.ext' (by show vals W' = _; rw [P.vals, ← pile_nl k]; rfl) P.kept P.many, len_set P.vals, fun h z => by cases z⟩
  | branch h o =>
    obtain ⟨k, k2⟩ : hOk W h ∧ hOk W o := hD
    cases e : doBranch W h o with
    | error x =>
      exfalso
      unfold doBranch at e
      rw [if_neg (fun z => z k), if_neg (fun z => z k2)] at e; cases e
    | ok W' =>
      simp only [doDeed, e, okM, Dids]
      obtain ⟨_, _, f, h1, h2, h4⟩ := doBranch_ok F e
      exact ⟨f, Nl.ext' (by show vals W' = _; rw [h1, ← pile_nl k]; rfl) h2 h4, len_set h1, fun h z => by cases z⟩
  | keep h =>
    have k : hOk W h := hD
    cases e : doKeep W h with
    | error x =>
      exfalso
      unfold doKeep at e
      rw [if_neg (fun z => z k)] at e; cases e
    | ok q =>
      obtain ⟨n, W'⟩ := q
      simp only [doDeed, e, okM, Dids]
      obtain ⟨_, rfl, _, f, h1, h2, h4⟩ := doKeep_ok F e
      refine ⟨f, Nl.ext' h1 (by show kept W' = _; rw [h2, ← pile_nl k]; rfl) h4, ?_, fun h z => by cases z⟩
      rw [← len_vals, h1, len_vals]
  | leap h p =>
    have k : hOk W h := hD
    have c : has (kept W) p = true := c
    rw [has_kept] at c
    obtain ⟨y, hy⟩ := has_true.mp c
    cases e : doLeap W h p with
    | error x =>
      exfalso
      unfold doLeap at e
      rw [if_neg (fun z => z k), hy] at e; cases e
    | ok W' =>
      simp only [doDeed, e, okM, Dids]
      obtain ⟨_, x, hx, f, h1, h2, h4⟩ := doLeap_ok F e
      refine ⟨f, Nl.ext' ?_ h2 h4, len_set h1, fun h z => by cases z⟩
      show vals W' = (vals W).set h.toNat ((lk (kept W) p).getD [])
      rw [h1, lk_kept, hx]; rfl
  | forget p =>
    have c : has (kept W) p = true := c
    rw [has_kept] at c
    obtain ⟨y, hy⟩ := has_true.mp c
    cases e : doForget W p with
    | error x =>
      exfalso
      unfold doForget at e
      rw [hy] at e; cases e
    | ok W' =>
      simp only [doDeed, e, okM, Dids]
      obtain ⟨x, hx, _, f, h1, h2, h4⟩ := doForget_ok F e
      refine ⟨f, Nl.ext' h1 h2 h4, ?_, fun h z => by cases z⟩
      rw [← len_vals, h1, len_vals]
end Sk
end
section
/-! SwP: parts of a heap side by side; the law's lists in their part. -/
namespace Sk
open PySem PySem.Spec PyProof.Rows L2 SW
/-! ### two lists, item by item -/
inductive F2 {α β : Type} (R : α → β → Prop) : List α → List β → Prop
  | nil : F2 R [] []
  | cons {a : α} {b : β} {xs : List α} {ys : List β} : R a b → F2 R xs ys → F2 R (a :: xs) (b :: ys)
section
variable {α β : Type} {R S : α → β → Prop} {xs : List α} {ys : List β}
theorem F2.len (h : F2 R xs ys) : xs.length = ys.length := by
  induction h with
  | nil => rfl
  | cons _ _ ih => simp [ih]
theorem F2.imp (h : F2 R xs ys) (k : ∀ a ∈ xs, ∀ b ∈ ys, R a b → S a b) : F2 S xs ys := by
  induction h with
  | nil => exact .nil
  | cons r _ ih => exact .cons (k _ (by simp) _ (by simp) r) (ih fun a ha b hb => k a (by simp [ha]) b (by simp [hb]))
theorem F2.get (h : F2 R xs ys) : ∀ {i : Nat} {b : β}, ys[i]? = some b → ∃ a, xs[i]? = some a ∧ R a b := by
  induction h with
  | nil => intro i b e; simp at e
  | cons r _ ih =>
    intro i b e
    cases i with
    | zero => exact ⟨_, rfl, by simpa using (by simpa using e : _ = b) ▸ r⟩
    | succ n => simpa using ih (by simpa using e)
theorem F2.get1 (h : F2 R xs ys) : ∀ {i : Nat} {a : α}, xs[i]? = some a → ∃ b, ys[i]? = some b ∧ R a b := by
  induction h with
  | nil => intro i b e; simp at e
  | cons r _ ih =>
    intro i b e
    cases i with
    | zero => exact ⟨_, rfl, by simpa using (by simpa using e : _ = b) ▸ r⟩
    | succ n => simpa using ih (by simpa using e)
theorem F2.set (h : F2 R xs ys) : ∀ (i : Nat) {a : α} {b : β}, R a b → F2 R (xs.set i a) (ys.set i b) := by
  induction h with
  | nil => intro i a b r; exact .nil
  | cons r0 h ih =>
    intro i a b r
    cases i with
    | zero => exact .cons r h
    | succ n => exact .cons r0 (ih n r)
theorem F2.snoc (h : F2 R xs ys) {a : α} {b : β} (r : R a b) : F2 R (xs ++ [a]) (ys ++ [b]) := by
  induction h with
  | nil => exact .cons r .nil
  | cons r0 _ ih => exact .cons r0 ih
end
/-- items with keys -/
theorem F2.ks {α β : Type} {R : α → β → Prop} {l : List (Int × α)} {m : List (Int × β)} (h : F2 (fun q r => q.1 = r.1 ∧ R q.2 r.2) l m) : ks l = ks m := by
  induction h with
  | nil => rfl
  | cons r _ ih => simp only [SW.ks, List.map_cons, r.1] at ih ⊢; rw [ih]
theorem F2.lk {α β : Type} {R : α → β → Prop} {l : List (Int × α)} {m : List (Int × β)} (h : F2 (fun q r => q.1 = r.1 ∧ R q.2 r.2) l m) {k : Int} {v : β} (e : lk m k = some v) : ∃ a, SW.lk l k = some a ∧ R a v := by
  induction h with
  | nil => cases e
  | @cons a b xs ys r _ ih =>
    obtain ⟨j, x⟩ := a
    obtain ⟨j', y⟩ := b
    obtain ⟨r1, r2⟩ := r
    have r1 : j = j' := r1
    subst r1
    by_cases z : j = k
    · simp only [SW.lk, if_pos z] at e ⊢; cases e; exact ⟨x, rfl, r2⟩
    · simp only [SW.lk, if_neg z] at e ⊢; exact ih e
theorem F2.lk0 {α β : Type} {R : α → β → Prop} {l : List (Int × α)} {m : List (Int × β)} (h : F2 (fun q r => q.1 = r.1 ∧ R q.2 r.2) l m) {k : Int} (e : SW.lk m k = none) : SW.lk l k = none := by
  have := h.ks
  rw [← not_mem_ks] at e ⊢; rw [this]; exact e
theorem F2.dr {α β : Type} {R : α → β → Prop} {l : List (Int × α)} {m : List (Int × β)} (h : F2 (fun q r => q.1 = r.1 ∧ R q.2 r.2) l m) (k : Int) : F2 (fun q r => q.1 = r.1 ∧ R q.2 r.2) (dr l k) (dr m k) := by
  induction h with
  | nil => exact .nil
  | @cons a b xs ys r _ ih =>
    unfold SW.dr at ih ⊢
    by_cases z : a.1 = k
    · rw [List.filter_cons, List.filter_cons, if_neg (by simpa using z), if_neg (by rw [← r.1]; simpa using z)]; exact ih
    · rw [List.filter_cons, List.filter_cons, if_pos (by simpa using z), if_pos (by rw [← r.1]; simpa using z)]; exact .cons r ih
/-! ### parts -/
def Apart (A B : Hp) : Prop := ∀ b, A b = none ∨ B b = none
theorem Apart.symm {A B : Hp} (h : Apart A B) : Apart B A := fun b => (h b).symm
theorem Stp.side {A H A' H' B : Hp} (s : Stp A H A' H') (hB : Sub B H) (ap : Apart A B) : Sub B H' ∧ Apart A' B := by
  refine ⟨fun b o e => ?_, fun b => ?_⟩
  · rcases ap b with z | z
    · exact s.oth b o (hB b o e) z
    · rw [z] at e; cases e
  · rcases ap b with z | z
    · cases q : A' b with
      | none => exact .inl rfl
      | some u =>
        have := s.new b z (by rw [q]; simp)
        cases w : B b with
        | none => exact .inr rfl
        | some o => rw [hB b o w] at this; cases this
    · exact .inr z
theorem Sub.same {B H H' : Hp} (h : Sub B H) (s : Same H H') : Sub B H' := fun b o e => s b o (h b o e)
theorem Sub.kp {B H H' : Hp} {d : Addr} (h : Sub B H) (k : Kp d H H') (n : B d = none) : Sub B H' := fun b o e => k b o (fun z => by rw [z, n] at e; cases e) (h b o e)
/-- all that is new is the part's -/
def grow (B H H' : Hp) : Hp := fun b => match H b with
  | none => H' b
  | some _ => B b
theorem grow_old {B H H' : Hp} (s : Sub B H) {b : Addr} {o : HO} (e : B b = some o) : grow B H H' b = some o := by
  unfold grow; rw [s b o e]; exact e
theorem grow_new {B H H' : Hp} {b : Addr} (n : H b = none) : grow B H H' b = H' b := by
  unfold grow; rw [n]
theorem Stp.grow {B H B1 H1 H2 : Hp} (s : Stp B H B1 H1) (k : Same H1 H2) : Stp B H (grow B1 H1 H2) H2 where
  own := fun b o e => by
    cases q : H1 b with
    | none => rw [grow_new q] at e; exact e
    | some u =>
      have : Sk.grow B1 H1 H2 b = B1 b := by unfold Sk.grow; rw [q]
      rw [this] at e; exact k _ _ (s.own b o e)
  oth := fun b o e n => k _ _ (s.oth b o e n)
  new := fun b n m => by
    cases q : H1 b with
    | none =>
      cases w : H b with
      | none => rfl
      | some o => rw [s.oth b o w n] at q; cases q
    | some u =>
      have : Sk.grow B1 H1 H2 b = B1 b := by unfold Sk.grow; rw [q]
      rw [this] at m; exact s.new b n m
/-! ### the law's lists -/
structure Nx where
  n : Addr
  pa : Addr
  ka : Addr
  ps : List Addr
  qs : List (Int × Addr)
def mkR (qs : List (Int × Addr)) : List (Key × V) := qs.map fun q => (Sum.inl q.1, V.ref q.2)
def nDc (pa ka : Addr) (m : Int) : List (Key × V) := [(Sum.inr "piles", .ref pa), (Sum.inr "kept", .ref ka), (Sum.inr "many", .int m)]
/-- a list of lists, none of which stands at pa -/
def LV (B : Hp) (pa p : Addr) (v : List (List Int)) : Prop := p ≠ pa ∧ ∃ cs, LL B p cs ∧ cs.map (·.2) = v ∧ ∀ c ∈ cs, c.1 ≠ pa
structure NA (B : Hp) (x : Nx) (N : Nl) : Prop where
  nd : B x.n = some (.dK (nDc x.pa x.ka N.many))
  pl : B x.pa = some (.lst (x.ps.map V.ref))
  kd : B x.ka = some (.dK (mkR x.qs))
  nk : x.n ≠ x.ka
  pv : F2 (LV B x.pa) x.ps N.piles
  kv : F2 (fun q r => q.1 = r.1 ∧ LV B x.pa q.2 r.2) x.qs N.kept
theorem LV.up {B B' : Hp} {pa p : Addr} {v : List (List Int)} (h : LV B pa p v) (k : ∀ b xs, b ≠ pa → B b = some (.lst xs) → B' b = some (.lst xs)) : LV B' pa p v := by
  obtain ⟨n, cs, ⟨l1, l2⟩, e, nc⟩ := h
  exact ⟨n, cs, ⟨k _ _ n l1, fun c hc => k _ _ (nc c hc) (l2 c hc)⟩, e, nc⟩
theorem NA.up {B B' : Hp} {x : Nx} {N : Nl} (h : NA B x N) (k : ∀ b o, B b = some o → B' b = some o) : NA B' x N :=
  ⟨k _ _ h.nd, k _ _ h.pl, k _ _ h.kd, h.nk, h.pv.imp fun _ _ _ _ r => r.up fun b xs _ e => k _ _ e, h.kv.imp fun _ _ _ _ r => ⟨r.1, r.2.up fun b xs _ e => k _ _ e⟩⟩
theorem NA.setPile {B : Hp} {x : Nx} {N : Nl} (h : NA B x N) (i : Nat) {p : Addr} {v : List (List Int)} (r : LV B x.pa p v) : NA (upd B x.pa (.lst ((x.ps.set i p).map V.ref))) { x with ps := x.ps.set i p } { N with piles := N.piles.set i v } := by
  have k : ∀ b xs, b ≠ x.pa → B b = some (.lst xs) → upd B x.pa (.lst ((x.ps.set i p).map V.ref)) b = some (.lst xs) := fun b xs n e => by rw [upd_ne n]; exact e
  refine ⟨?_, upd_same, ?_, h.nk, ?_, h.kv.imp fun _ _ _ _ r => ⟨r.1, r.2.up k⟩⟩
  · rw [upd_ne (ne_of h.nd h.pl (by intro z; cases z))]; exact h.nd
  · rw [upd_ne (ne_of h.kd h.pl (by intro z; cases z))]; exact h.kd
  · exact (h.pv.imp (S := LV (upd B x.pa (.lst ((x.ps.set i p).map V.ref))) x.pa) fun _ _ _ _ r => r.up k).set i (r.up k)
theorem NA.setKept {B : Hp} {x : Nx} {N : Nl} (h : NA B x N) {qs : List (Int × Addr)} {kp : List (Int × List (List Int))} (r : F2 (fun q r => q.1 = r.1 ∧ LV B x.pa q.2 r.2) qs kp) : NA (upd B x.ka (.dK (mkR qs))) { x with qs := qs } { N with kept := kp } := by
  have k : ∀ b xs, b ≠ x.pa → B b = some (.lst xs) → upd B x.ka (.dK (mkR qs)) b = some (.lst xs) := fun b xs _ e => by rw [upd_ne (ne_of e h.kd (by intro z; cases z))]; exact e
  refine ⟨?_, ?_, upd_same, h.nk, h.pv.imp fun _ _ _ _ r => r.up k, r.imp fun _ _ _ _ r => ⟨r.1, r.2.up k⟩⟩
  · rw [upd_ne h.nk]; exact h.nd
  · rw [upd_ne (ne_of h.pl h.kd (by intro z; cases z))]; exact h.pl
theorem NA.setMany {B : Hp} {x : Nx} {N : Nl} (h : NA B x N) (m : Int) : NA (upd B x.n (.dK (nDc x.pa x.ka m))) x { N with many := m } := by
  have k : ∀ b xs, b ≠ x.pa → B b = some (.lst xs) → upd B x.n (.dK (nDc x.pa x.ka m)) b = some (.lst xs) := fun b xs _ e => by rw [upd_ne (ne_of e h.nd (by intro z; cases z))]; exact e
  refine ⟨upd_same, ?_, ?_, h.nk, h.pv.imp fun _ _ _ _ r => r.up k, h.kv.imp fun _ _ _ _ r => ⟨r.1, r.2.up k⟩⟩
  · rw [upd_ne (ne_of h.pl h.nd (by intro z; cases z))]; exact h.pl
  · rw [upd_ne h.nk.symm]; exact h.kd
theorem valV_mkR (qs : List (Int × Addr)) (k : Int) : valV (mkR qs) (Sum.inl k) = (lk qs k).map V.ref := by
  induction qs with
  | nil => rfl
  | cons p l ih =>
    obtain ⟨j, a⟩ := p
    by_cases e : j = k
    · subst e
      simp [mkR, lk, valV]
    · have z : valV (mkR ((j, a) :: l)) (Sum.inl k) = valV (mkR l) (Sum.inl k) := valV_neg (p := (Sum.inl j, V.ref a)) (by simpa using e)
      rw [z, ih]; simp [lk, e]
theorem putK_mkR {qs : List (Int × Addr)} {k : Int} (p : Addr) (h : lk qs k = none) : putK (mkR qs) (Sum.inl k) (.ref p) = mkR (qs ++ [(k, p)]) := by
  rw [putK_new _ (by rw [valV_mkR, h]; rfl)]
  unfold mkR
  rw [List.map_append]; rfl
theorem dropK_mkR (qs : List (Int × Addr)) (k : Int) : dropK (mkR qs) (Sum.inl k) = mkR (dr qs k) := by
  unfold dropK mkR dr
  rw [List.filter_map]
  congr 1
  apply List.filter_congr
  intro a _
  simp
theorem key_pm : ¬ (Sum.inr (Str.ofString "piles") : Key) = Sum.inr (Str.ofString "many") := by decide +kernel
theorem key_km : ¬ (Sum.inr (Str.ofString "kept") : Key) = Sum.inr (Str.ofString "many") := by decide +kernel
theorem key_pk : ¬ (Sum.inr (Str.ofString "piles") : Key) = Sum.inr (Str.ofString "kept") := by decide +kernel
theorem nD_piles (pa ka : Addr) (m : Int) : valV (nDc pa ka m) (Sum.inr "piles") = some (.ref pa) := valV_pos rfl
theorem nD_kept (pa ka : Addr) (m : Int) : valV (nDc pa ka m) (Sum.inr "kept") = some (.ref ka) := by
  unfold nDc; rw [valV_neg key_pk]; exact valV_pos rfl
theorem nD_many (pa ka : Addr) (m : Int) : valV (nDc pa ka m) (Sum.inr "many") = some (.int m) := by
  unfold nDc; rw [valV_neg key_pm, valV_neg key_km]; exact valV_pos rfl
theorem nD_put (pa ka : Addr) (m m' : Int) : putK (nDc pa ka m) (Sum.inr "many") (.int m') = nDc pa ka m' := by
  unfold putK
  rw [valV_any, nD_many, if_pos (by rfl)]
  unfold nDc
  simp only [List.map_cons, List.map_nil, if_neg key_pm, if_neg key_km, if_pos]
end Sk
end
section
/-! SwL4: the law's lists, in the heap. -/
namespace Sk
open PySem PySem.Spec PyProof.Rows L2 SW
section
variable (K : PySem.W.Frag)
def spLists : Sp := fun vs H Q _ => ∃ hands : Int, vs = [.int hands] ∧ (0 ≤ hands ∧ hands ≤ 6) ∧ ∀ H' x, Same H H' → NA (grow (fun _ => none) H H') x ⟨List.replicate hands.toNat [], [], 0⟩ → Q (.ref x.n) H'
def spSizes : Sp := fun vs H Q _ => ∃ (B : Hp) (x : Nx) (N : Nl), vs = [.ref x.n] ∧ Sub B H ∧ NA B x N ∧ (1 ≤ N.piles.length ∧ N.piles.length ≤ 6) ∧ (∀ v ∈ N.piles, v.length ≤ 40) ∧
  ∀ H' t deep, Same H H' → 0 ≤ deep → deep ≤ 40 → H' t = some (.tup [.int N.piles.length, .int deep, .int N.many]) → Q (.ref t) H'
def spCan : Sp := fun vs H Q _ => ∃ (B : Hp) (x : Nx) (N : Nl) (t : Addr) (D : Deed), vs = [.ref x.n, .ref t] ∧ Sub B H ∧ NA B x N ∧ DeedAt H t D ∧ InD (N.piles.length : Int) D ∧ ∀ H', Same H H' → Q (.bl (canN N D)) H'
def spApart : Sp := fun vs H Q _ => ∃ (B : Hp) (x : Nx) (N : Nl) (t : Addr) (D : Deed), vs = [.ref x.n, .ref t] ∧ Sub B H ∧ NA B x N ∧ DeedAt H t D ∧ InD (N.piles.length : Int) D ∧ canN N D = true ∧ lk N.kept N.many = none ∧ N.kept.length ≤ 10000 ∧ (∀ v ∈ N.piles, v.length ≤ 40) ∧ (∀ q ∈ N.kept, q.2.length ≤ 40) ∧
  ∀ B' x' H', x'.n = x.n → NA B' x' (apN N D) → Stp B H B' H' → Q .non H'
end
theorem nodup_idx {α : Type} {l : List α} (nd : l.Nodup) {i j : Nat} {a : α} (h : l[i]? = some a) (k : l[j]? = some a) : i = j := by
  have hi : i < l.length := by
    rcases Nat.lt_or_ge i l.length with q | q
    · exact q
    · rw [List.getElem?_eq_none q] at h; cases h
  exact (List.getElem?_inj hi nd).mp (h.trans k.symm)
theorem _root_.List.set_getElem?_self' {α : Type} {l : List α} {i : Nat} {a : α} (h : l[i]? = some a) : l.set i a = l := by
  apply List.ext_getElem?
  intro j
  by_cases q : i = j
  · subst q
    rw [List.getElem?_set]
    split
    · split
      · exact h.symm
      · rename_i w; rw [List.getElem?_eq_none (by omega)]
    · rename_i w; exact absurd rfl w
  · rw [List.getElem?_set_ne q]
theorem take_snocA {α : Type} {l : List α} {i : Nat} {r : α} (h : l[i]? = some r) : l.take (i + 1) = l.take i ++ [r] := by
  rw [List.take_add_one, h]; rfl
theorem LL.up {H H' : Hp} {p : Addr} {cs : List (Addr × List Int)} (h : LL H p cs) (s : ∀ b o, H b = some o → H' b = some o) : LL H' p cs := ⟨s _ _ h.1, fun c hc => s _ _ (h.2 c hc)⟩
theorem NA.grown {B H H' : Hp} {x : Nx} {N : Nl} (R : NA B x N) (s : Sub B H) (_ : Same H H') : NA (grow B H H') x N := R.up fun _ _ e => grow_old s e
theorem pileAt {N : Nl} {h : Int} (hh : 0 ≤ h ∧ h < (N.piles.length : Int)) : N.piles[h.toNat]? = some (pile N h) := by
  unfold pile; rw [List.getD_eq_getElem?_getD, List.getElem?_eq_getElem (by omega)]; rfl
theorem pileIn {N : Nl} {h : Int} (hh : 0 ≤ h ∧ h < (N.piles.length : Int)) : pile N h ∈ N.piles := List.mem_of_getElem? (pileAt hh)
theorem cut1 (xs : List V) : cutV xs (some 1) none = xs.drop 1 := by
  unfold cutV
  have e1 : HT.sIx xs.length xs.length none = xs.length := HT.sIx_none _ _
  have e2 : HT.sIx xs.length 0 (some 1) = min 1 xs.length := by
    have : (1 : Int) = ((1 : Nat) : Int) := rfl
    rw [this, HT.sIx_nat]
  rw [e1, e2]
  rcases Nat.lt_or_ge 0 xs.length with q | q
  · rw [Nat.min_eq_left q, List.take_of_length_le (by rw [List.length_drop]; omega)]
  · have : xs = [] := List.length_eq_zero_iff.mp (by omega)
    subst this; rfl
theorem lv_new {B H H0 H' : Hp} {D pa : Addr} {v : List (List Int)} {ds : List (Addr × List Int)} (s : Sub B H) (e0 : Same H H0) (N : NewLL H0 H' D v ds) {o : HO} (hp : B pa = some o) : LV (grow B H H') pa D v := by
  have hp0 := e0 _ _ (s _ _ hp)
  refine ⟨(ne_of_none hp0 N.np).symm, ds, ⟨?_, fun c hc => ?_⟩, N.vals, fun c hc => (ne_of_none hp0 (N.nc c hc)).symm⟩
  · rw [grow_new (e0.free N.np)]; exact N.ll.1
  · rw [grow_new (e0.free (N.nc c hc))]; exact N.ll.2 c hc
theorem NewLL.setIn {H H' : Hp} {p : Addr} {vs : List (List Int)} {cs : List (Addr × List Int)} (N : NewLL H H' p vs cs) {i : Nat} {c : Addr × List Int} (e : cs[i]? = some c) (z : List Int) : NewLL H (upd H' c.1 (.lst (z.map V.int))) p (vs.set i z) (cs.set i (c.1, z)) := by
  have hi : i < cs.length := by
    rcases Nat.lt_or_ge i cs.length with q | q
    · exact q
    · rw [List.getElem?_eq_none q] at e; cases e
  have hm := List.mem_of_getElem? e
  obtain ⟨nd1, nd2⟩ := List.nodup_cons.mp N.nd
  have f1 : (cs.set i (c.1, z)).map (·.1) = cs.map (·.1) := by
    rw [List.map_set]
    exact List.set_getElem?_self' (by rw [List.getElem?_map, e]; rfl)
  refine ⟨fun b o h => ?_, N.np, ⟨?_, fun a ha => ?_⟩, ?_, ?_, fun a ha => ?_⟩
  · rw [upd_ne (ne_of_none h (N.nc c hm))]; exact N.same b o h
  · have : (cs.set i (c.1, z)).map (fun c => V.ref c.1) = cs.map fun c => V.ref c.1 := by
      have := congrArg (List.map V.ref) f1
      simpa [List.map_map, Function.comp_def] using this
    rw [this, upd_ne (fun q => nd1 (List.mem_map.mpr ⟨c, hm, q.symm⟩))]
    exact N.ll.1
  · obtain ⟨j, ej⟩ := List.mem_iff_getElem?.mp ha
    by_cases q : i = j
    · subst q
      rw [List.getElem?_set_self hi] at ej
      cases ej
      exact upd_same
    · rw [List.getElem?_set_ne q] at ej
      have n : a.1 ≠ c.1 := fun w => q (nodup_idx nd2 (by rw [List.getElem?_map, e]; rfl) (by rw [List.getElem?_map, ej]; exact congrArg some w))
      rw [upd_ne n]
      exact N.ll.2 a (List.mem_of_getElem? ej)
  · rw [List.map_set, N.vals]
  · rw [f1]; exact N.nd
  · obtain ⟨j, ej⟩ := List.mem_iff_getElem?.mp ha
    by_cases q : i = j
    · subst q
      rw [List.getElem?_set_self hi] at ej
      cases ej
      exact N.nc c hm
    · rw [List.getElem?_set_ne q] at ej
      exact N.nc a (List.mem_of_getElem? ej)
theorem dp_ll {K : PySem.W.Frag} {H : Hp} {p : Addr} {cs : List (Addr × List Int)} (h : LL H p cs) : Dp K H (.ref p) (.list (cs.map fun c => .list (c.2.map PyData.int))) := by
  obtain ⟨h1, h2⟩ := h
  refine .lst (SqL.of h1) ?_
  clear h1
  induction cs with
  | nil => exact .nil
  | cons a l ih => exact .cons (dp_ints (h2 a (by simp))) (ih fun c hc => h2 c (by simp [hc]))
theorem lay_ll (l : List (Addr × List Int)) : PyData.canLayAll0 (l.map fun c => PyData.list (c.2.map PyData.int)) = true ∧ PyData.depthAll (l.map fun c => PyData.list (c.2.map PyData.int)) ≤ 2 := by
  induction l with
  | nil => exact ⟨by simp [PyData.canLayAll0], by simp [PyData.depthAll]⟩
  | cons a l ih =>
    have z := lay_ints a.2
    refine ⟨by simp [PyData.canLayAll0, PyData.canLay0, ih.1, z.1], ?_⟩
    simp only [List.map_cons, PyData.depthAll, PyData.depth]
    omega
theorem shaped_ll (l : List (Addr × List Int)) : SeqAt.shaped (.list (l.map fun c => .list (c.2.map PyData.int))) = true := by
  have := lay_ll l
  have e1 : (PyData.list (l.map fun c => .list (c.2.map PyData.int))).canLay0 = true := by simp only [PyData.canLay0]; exact this.1
  have e2 : (PyData.list (l.map fun c => .list (c.2.map PyData.int))).depth ≤ 64 := by
    have z : (PyData.list (l.map fun c => .list (c.2.map PyData.int))).depth = PyData.depthAll (l.map fun c => PyData.list (c.2.map PyData.int)) + 1 := by simp only [PyData.depth]
    omega
  simp [SeqAt.shaped, e1, e2]
theorem get_piles {H : Hp} {x : Nx} {N : Nl} (h : H x.n = some (.dK (nDc x.pa x.ka N.many))) : DGet H x.n (V.str "piles") (some (.ref x.pa)) := by
  have := DGet.k (k := Sum.inr "piles") h
  rw [nD_piles] at this; exact this
theorem get_kept {H : Hp} {x : Nx} {N : Nl} (h : H x.n = some (.dK (nDc x.pa x.ka N.many))) : DGet H x.n (V.str "kept") (some (.ref x.ka)) := by
  have := DGet.k (k := Sum.inr "kept") h
  rw [nD_kept] at this; exact this
theorem get_many {H : Hp} {x : Nx} {N : Nl} (h : H x.n = some (.dK (nDc x.pa x.ka N.many))) : DGet H x.n (V.str "many") (some (.int N.many)) := by
  have := DGet.k (k := Sum.inr "many") h
  rw [nD_many] at this; exact this
section
variable {P : Program} {w : World} {K : PySem.W.Frag} {mg : Str → Option Value} {base : Heap}
end
end Sk
end
section
/-! SwW: three parts side by side, beside the tables of code objects. -/
namespace Sk
open PySem PySem.Spec PyProof.Rows L2 SW
/-- no table, no code object -/
def Pl (A : Hp) : Prop := ∀ b o, A b = some o → (∀ ps, o ≠ .tbl ps) ∧ ∀ f, o ≠ .ext f
def pl (A : Hp) : Hp := fun b => match A b with
  | some (.tbl _) => none
  | some (.ext _) => none
  | x => x
theorem pl_of {A : Hp} {b : Addr} {o : HO} (h : pl A b = some o) : A b = some o ∧ (∀ ps, o ≠ .tbl ps) ∧ ∀ f, o ≠ .ext f := by
  unfold pl at h
  split at h
  · cases h
  · cases h
  · rename_i n1 n2
    exact ⟨h, fun ps z => n1 ps (by rw [h, z]), fun f z => n2 f (by rw [h, z])⟩
theorem pl_pl (A : Hp) : Pl (pl A) := fun b o h => (pl_of h).2
theorem pl_to {A : Hp} {b : Addr} {o : HO} (h : A b = some o) (n1 : ∀ ps, o ≠ .tbl ps) (n2 : ∀ f, o ≠ .ext f) : pl A b = some o := by
  unfold pl
  split
  · rename_i e; exact absurd (Option.some.inj (h.symm.trans e)) (n1 _)
  · rename_i e; exact absurd (Option.some.inj (h.symm.trans e)) (n2 _)
  · exact h
theorem Pl.tbl {A : Hp} (h : Pl A) {H : Hp} (s : Sub A H) {b : Addr} {ps : Array Value} (e : H b = some (.tbl ps)) : A b = none := by
  cases q : A b with
  | none => rfl
  | some o => exact absurd (Option.some.inj ((s b o q).symm.trans e)) ((h b o q).1 ps)
theorem Pl.ext {A : Hp} (h : Pl A) {H : Hp} (s : Sub A H) {b : Addr} {f : Heap → Prop} (e : H b = some (.ext f)) : A b = none := by
  cases q : A b with
  | none => rfl
  | some o => exact absurd (Option.some.inj ((s b o q).symm.trans e)) ((h b o q).2 f)
theorem tabs_by {T : List (Addr × Str)} {H H' : Hp} (t : LamX.Tabs T H) (h1 : ∀ b ps, H b = some (.tbl ps) → H' b = some (.tbl ps)) (h2 : ∀ b f, H b = some (.ext f) → H' b = some (.ext f)) : LamX.Tabs T H' := fun p hp => by
  obtain ⟨ps, e1, e2, e3⟩ := t p hp
  refine ⟨ps, h1 _ _ e1, e2, fun pos cv hc => ?_⟩
  obtain ⟨c, q1, q2⟩ := e3 pos cv hc
  exact ⟨c, q1, h2 _ _ q2⟩
theorem tabs_kp {T : List (Addr × Str)} {H H' : Hp} {d a : Addr} (t : LamX.Tabs T H) (k : Kp d H H') (D : Dice H d a) : LamX.Tabs T H' := by
  obtain ⟨_, _, _, _, _, hd⟩ := D
  exact tabs_by t (fun b ps q => k b _ (fun z => by rw [z, hd] at q; cases q) q) (fun b f q => k b _ (fun z => by rw [z, hd] at q; cases q) q)
structure Wld (T : List (Addr × Str)) (H A B C : Hp) : Prop where
  sA : Sub A H
  sB : Sub B H
  sC : Sub C H
  ab : Apart A B
  ac : Apart A C
  bc : Apart B C
  pA : Pl A
  pB : Pl B
  pC : Pl C
  tb : LamX.Tabs T H
section
variable {T : List (Addr × Str)} {H H' A B C A' B' C' : Hp}
theorem Wld.same (w : Wld T H A B C) (s : Same H H') : Wld T H' A B C :=
  ⟨w.sA.same s, w.sB.same s, w.sC.same s, w.ab, w.ac, w.bc, w.pA, w.pB, w.pC, w.tb.ext s⟩
theorem Wld.ext (w : Wld T H A B C) (s : LamX.ExtN H H') (t : LamX.Tabs T H') : Wld T H' A B C :=
  ⟨fun b o e => s b o (w.sA b o e) (w.pA b o e).1, fun b o e => s b o (w.sB b o e) (w.pB b o e).1, fun b o e => s b o (w.sC b o e) (w.pC b o e).1, w.ab, w.ac, w.bc, w.pA, w.pB, w.pC, t⟩
theorem Apart.pl (h : Apart A B) : Apart (pl A) B := fun b => by
  rcases h b with z | z
  · refine .inl ?_
    unfold Sk.pl; rw [z]
  · exact .inr z
theorem Sub.pl (h : Sub A H) : Sub (pl A) H := fun b o e => h b o (pl_of e).1
theorem Wld.stA (w : Wld T H A B C) (s : Stp A H A' H') : Wld T H' (pl A') B C := by
  obtain ⟨b1, b2⟩ := s.side w.sB w.ab
  obtain ⟨c1, c2⟩ := s.side w.sC w.ac
  exact ⟨s.own.pl, b1, c1, b2.pl, c2.pl, w.bc, pl_pl _, w.pB, w.pC,
    tabs_by w.tb (fun b ps e => s.oth b _ e (w.pA.tbl w.sA e)) (fun b f e => s.oth b _ e (w.pA.ext w.sA e))⟩
theorem Wld.swap (w : Wld T H A B C) : Wld T H B A C := ⟨w.sB, w.sA, w.sC, w.ab.symm, w.bc, w.ac, w.pB, w.pA, w.pC, w.tb⟩
theorem Wld.stB (w : Wld T H A B C) (s : Stp B H B' H') : Wld T H' A (pl B') C := (w.swap.stA s).swap
/-- the cell at d moves -/
def setC (C : Hp) (d : Addr) (o : HO) : Hp := upd C d o
theorem Wld.cell (w : Wld T H A B C) {d : Addr} {xs ys : List V} (k : Kp d H H') (e : C d = some (.lst xs)) (e' : H' d = some (.lst ys)) : Wld T H' A B (upd C d (.lst ys)) := by
  have dA : A d = none := by
    rcases w.ac d with z | z
    · exact z
    · rw [e] at z; cases z
  have dB : B d = none := by
    rcases w.bc d with z | z
    · exact z
    · rw [e] at z; cases z
  refine ⟨w.sA.kp k dA, w.sB.kp k dB, fun b o q => ?_, w.ab, fun b => ?_, fun b => ?_, w.pA, w.pB, fun b o q => ?_, ?_⟩
  · by_cases z : b = d
    · subst z; rw [upd_same] at q; cases q; exact e'
    · rw [upd_ne z] at q; exact k b o z (w.sC b o q)
  · by_cases z : b = d
    · subst z; exact .inl dA
    · rw [upd_ne z]; exact w.ac b
  · by_cases z : b = d
    · subst z; exact .inl dB
    · rw [upd_ne z]; exact w.bc b
  · by_cases z : b = d
    · subst z; rw [upd_same] at q; cases q; exact ⟨fun ps z => by (cases z), fun f z => by (cases z)⟩
    · rw [upd_ne z] at q; exact w.pC b o q
  · have hd := w.sC d _ e
    refine tabs_by w.tb (fun b ps q => k b _ (fun z => by rw [z, hd] at q; cases q) q) (fun b f q => k b _ (fun z => by rw [z, hd] at q; cases q) q)
end
/-- the dice and the script in their part -/
structure Die (K : PySem.W.Frag) (C : Hp) (d a : Addr) (ns : List Int) : Prop where
  dice : Dice C d a
  scr : SqL K C a (ns.map V.int)
theorem Dice.up {H H' : Hp} {d a : Addr} (D : Dice H d a) (s : Sub H H') : Dice H' d a := by
  obtain ⟨n, i, m, r, h, e⟩ := D
  exact ⟨n, i, m, r, h, s _ _ e⟩
theorem Die.dH {K : PySem.W.Frag} {C H : Hp} {d a : Addr} {ns : List Int} (D : Die K C d a ns) (s : Sub C H) : Dice H d a := D.dice.up s
theorem Die.sH {K : PySem.W.Frag} {C H : Hp} {d a : Addr} {ns : List Int} (D : Die K C d a ns) (s : Sub C H) : SqL K H a (ns.map V.int) := Same.seq (fun b o e => s b o e) D.scr
/-- behind draws -/
theorem Wld.drawn {K : PySem.W.Frag} {T : List (Addr × Str)} {H H' A B C : Hp} (w : Wld T H A B C) {d a : Addr} {ns : List Int} (D : Die K C d a ns) (k : Kp d H H') (D' : Dice H' d a) : ∃ C', Wld T H' A B C' ∧ Die K C' d a ns := by
  obtain ⟨n, i, m, r, h, e⟩ := D.dice
  obtain ⟨_, i', m', r', h', e'⟩ := D'
  refine ⟨_, w.cell k e e', ⟨n, i', m', r', h', upd_same⟩, ?_⟩
  exact sq_upd D.scr e n
theorem WA.plain {K : PySem.W.Frag} {A : Hp} {x : Ad} {W : Wd} (R : WA K A x W) : WA K (pl A) x W := by
  have up : ∀ {b : Addr} {o : HO}, A b = some o → (∀ ps, o ≠ .tbl ps) → (∀ f, o ≠ .ext f) → pl A b = some o := fun h n1 n2 => pl_to h n1 n2
  exact ⟨up R.ins (fun _ z => by cases z) (fun _ z => by cases z), up R.frs (fun _ z => by cases z) (fun _ z => by cases z), up R.tps (fun _ z => by cases z) (fun _ z => by cases z), up R.mks (fun _ z => by cases z) (fun _ z => by cases z),
    fun r f h => up (R.fr r f h) (fun _ z => by cases z) (fun _ z => by cases z), fun r f h => up (R.sl r f h) (fun _ z => by cases z) (fun _ z => by cases z), R.fi, R.si, R.st, R.dm, R.pf⟩
theorem NA.plain {B : Hp} {x : Nx} {N : Nl} (R : NA B x N) : NA (Sk.pl B) x N := by
  have lv : ∀ {p : Addr} {v : List (List Int)}, LV B x.pa p v → LV (Sk.pl B) x.pa p v := fun h => h.up fun b xs _ e => pl_to e (fun _ z => by cases z) (fun _ z => by cases z)
  exact ⟨pl_to R.nd (fun _ z => by cases z) (fun _ z => by cases z), pl_to R.pl (fun _ z => by cases z) (fun _ z => by cases z), pl_to R.kd (fun _ z => by cases z) (fun _ z => by cases z), R.nk, R.pv.imp fun _ _ _ _ r => lv r, R.kv.imp fun _ _ _ _ r => ⟨r.1, lv r.2⟩⟩
/-- a wood made beside dice -/
theorem Wld.first {T : List (Addr × Str)} {H A B C : Hp} (sA : Sub A H) (sB : Sub B H) (sC : Sub C H) (ab : Apart A B) (ac : Apart A C) (bc : Apart B C) (t : LamX.Tabs T H) : Wld T H (pl A) (pl B) (pl C) :=
  ⟨sA.pl, sB.pl, sC.pl, (ab.pl.symm.pl).symm, (ac.pl.symm.pl).symm, (bc.pl.symm.pl).symm, pl_pl _, pl_pl _, pl_pl _, t⟩
theorem SqL.plain {K : PySem.W.Frag} {C : Hp} {a : Addr} {xs : List V} (h : SqL K C a xs) : SqL K (pl C) a xs := by
  rcases h with (h | ⟨o, h⟩) | h
  · exact .inl (.inl (pl_to h (fun _ z => by cases z) (fun _ z => by cases z)))
  · exact .inl (.inr ⟨o, pl_to h (fun _ z => by cases z) (fun _ z => by cases z)⟩)
  · exact .inr h
/-- the cells of the dice alone -/
def diC (H : Hp) (d a : Addr) : Hp := fun b => if b = d ∨ b = a then H b else none
theorem diC_sub (H : Hp) (d a : Addr) : Sub (diC H d a) H := fun b o e => by
  unfold diC at e
  split at e
  · exact e
  · cases e
theorem diC_none {H : Hp} {d a b : Addr} (h : H b = none) : diC H d a b = none := by
  unfold diC; split
  · exact h
  · rfl
theorem diC_die {K : PySem.W.Frag} {H : Hp} {d a : Addr} {ns : List Int} (D : Dice H d a) (h : SqL K H a (ns.map V.int)) : Die K (diC H d a) d a ns := by
  obtain ⟨n, i, m, r, h0, e⟩ := D
  have ea : diC H d a a = H a := by unfold diC; rw [if_pos (.inr rfl)]
  refine ⟨⟨n, i, m, r, h0, by unfold diC; rw [if_pos (.inl rfl)]; exact e⟩, ?_⟩
  rcases h with (h | ⟨o, h⟩) | h
  · exact .inl (.inl (ea.trans h))
  · exact .inl (.inr ⟨o, ea.trans h⟩)
  · exact .inr h
theorem Die.plain {K : PySem.W.Frag} {C : Hp} {d a : Addr} {ns : List Int} (D : Die K C d a ns) : Die K (pl C) d a ns := by
  obtain ⟨n, i, m, r, h, e⟩ := D.dice
  exact ⟨⟨n, i, m, r, h, pl_to e (fun _ z => by cases z) (fun _ z => by cases z)⟩, SqL.plain D.scr⟩
end Sk
end
section
/-! SwV: what the laws' own walks share. -/
namespace Sk
open PySem PySem.Spec PyProof.Rows L2 SW
/-- the lambda's full name -/
def qLam : Str := (envOfC "law" (defScope s_law) 0 0 Value.none).qual ++ "<lambda>"
def spLaw (K : PySem.W.Frag) (P0 : Addr) : Sp := fun vs H Q _ => ∃ (a : Addr) (ns : List Int), vs = [.ref a] ∧ SqL K H a (ns.map V.int) ∧ ns.length ≤ 63 ∧ LamX.Tabs [(P0, qLam)] H ∧ ∀ H', Q (.bl true) H'
theorem eqv_ints {K : PySem.W.Frag} {H : Hp} {p q : Addr} {l : List Int} (n : Nat) (h1 : SqL K H p (l.map V.int)) (h2 : SqL K H q (l.map V.int)) (hl : l.length ≤ 100000) : Eqv K H (n + 1) (.ref p) (.ref q) := by
  refine .lst n h1 h2 rfl (by rw [List.length_map]; exact hl) fun i x y e1 e2 => ?_
  rw [e1] at e2
  cases e2
  rw [List.getElem?_map] at e1
  cases e : l[i]? with
  | none => rw [e] at e1; cases e1
  | some u => rw [e] at e1; cases e1; exact .int n u
theorem eqv_ll {K : PySem.W.Frag} {H : Hp} {p q : Addr} {cs ds : List (Addr × List Int)} (n : Nat) (h1 : LL H p cs) (h2 : LL H q ds) (e : cs.map (·.2) = ds.map (·.2)) (hl : cs.length ≤ 40) (h3 : ∀ c ∈ cs, c.2.length ≤ 100000) : Eqv K H (n + 2) (.ref p) (.ref q) := by
  have le : cs.length = ds.length := by simpa using congrArg List.length e
  refine .lst (n + 1) (SqL.of h1.1) (SqL.of h2.1) (by rw [List.length_map, List.length_map]; exact le) (by rw [List.length_map]; omega) fun i x y e1 e2 => ?_
  rw [List.getElem?_map] at e1 e2
  cases ec : cs[i]? with
  | none => rw [ec] at e1; cases e1
  | some c =>
    cases ed : ds[i]? with
    | none => rw [ed] at e2; cases e2
    | some f =>
      rw [ec] at e1; rw [ed] at e2
      cases e1; cases e2
      have e3 := congrArg (fun l => l[i]?) e
      simp only [List.getElem?_map, ec, ed, Option.map_some, Option.some.injEq] at e3
      have q1 := h1.2 c (List.mem_of_getElem? ec)
      have q2 := h2.2 f (List.mem_of_getElem? ed)
      rw [← e3] at q2
      exact eqv_ints n (SqL.of q1) (SqL.of q2) (h3 c (List.mem_of_getElem? ec))
/-- a list of lists of lists -/
def L3 (H : Hp) (p : Addr) (qs : List (Addr × List (List Int))) : Prop := H p = some (.lst (qs.map fun q => V.ref q.1)) ∧ ∀ q ∈ qs, LV H p q.1 q.2
theorem L3.up {H H' : Hp} {p : Addr} {qs : List (Addr × List (List Int))} (h : L3 H p qs) (s : ∀ b o, H b = some o → H' b = some o) : L3 H' p qs := ⟨s _ _ h.1, fun q hq => (h.2 q hq).up fun b xs _ e => s _ _ e⟩
/-- one more, new -/
theorem L3.snoc {H0 H' H'' : Hp} {D p : Addr} {qs : List (Addr × List (List Int))} {v : List (List Int)} {cs : List (Addr × List Int)} (h : L3 H' D qs) (N : NewLL H' H'' p v cs) : L3 (upd H'' D (.lst ((qs.map fun q => V.ref q.1) ++ [V.ref p]))) D (qs ++ [(p, v)]) := by
  refine ⟨by rw [upd_same, List.map_append]; rfl, fun q hq => ?_⟩
  rcases List.mem_append.mp hq with z | z
  · exact (h.2 q z).up fun b xs n e => by rw [upd_ne n]; exact N.same _ _ e
  · have : q = (p, v) := by simpa using z
    subst this
    have n1 : p ≠ D := (ne_of_none h.1 N.np).symm
    have n2 : ∀ c ∈ cs, c.1 ≠ D := fun c hc => (ne_of_none h.1 (N.nc c hc)).symm
    exact ⟨n1, cs, ⟨by rw [upd_ne n1]; exact N.ll.1, fun c hc => by rw [upd_ne (n2 c hc)]; exact N.ll.2 c hc⟩, N.vals, n2⟩
/-- one more, an old one -/
theorem L3.snocOld {H' : Hp} {D pa p : Addr} {qs : List (Addr × List (List Int))} {v : List (List Int)} (h : L3 H' D qs) (r : LV H' pa p v) (n1 : p ≠ D) (n2 : ∀ cs, LL H' p cs → ∀ c ∈ cs, c.1 ≠ D) : L3 (upd H' D (.lst ((qs.map fun q => V.ref q.1) ++ [V.ref p]))) D (qs ++ [(p, v)]) := by
  refine ⟨by rw [upd_same, List.map_append]; rfl, fun q hq => ?_⟩
  rcases List.mem_append.mp hq with z | z
  · exact (h.2 q z).up fun b xs n e => by rw [upd_ne n]; exact e
  · have : q = (p, v) := by simpa using z
    subst this
    obtain ⟨_, cs, l, e, _⟩ := r
    have n2' := n2 cs l
    exact ⟨n1, cs, ⟨by rw [upd_ne n1]; exact l.1, fun c hc => by rw [upd_ne (n2' c hc)]; exact l.2 c hc⟩, e, n2'⟩
theorem L3.upL {H H' : Hp} {p : Addr} {qs : List (Addr × List (List Int))} (h : L3 H p qs) (s : ∀ b xs, H b = some (.lst xs) → H' b = some (.lst xs)) : L3 H' p qs := ⟨s _ _ h.1, fun q hq => (h.2 q hq).up fun b xs _ e => s _ _ e⟩
/-- one more, all new since H -/
theorem L3.snocF {H H' H'' : Hp} {D p : Addr} {qs : List (Addr × List (List Int))} {v : List (List Int)} {cs : List (Addr × List Int)} (h : L3 (fresh H H') D qs) (N : NewLL H' H'' p v cs) (s : Same H H') : L3 (fresh H (upd H'' D (.lst ((qs.map fun q => V.ref q.1) ++ [V.ref p])))) D (qs ++ [(p, v)]) := by
  obtain ⟨nD, hD⟩ := fresh_to h.1
  refine ⟨fresh_of nD (by rw [upd_same, List.map_append]; rfl), fun q hq => ?_⟩
  rcases List.mem_append.mp hq with z | z
  · refine (h.2 q z).up fun b xs n e => ?_
    obtain ⟨e1, e2⟩ := fresh_to e
    exact fresh_of e1 (by rw [upd_ne n]; exact N.same _ _ e2)
  · have : q = (p, v) := by simpa using z
    subst this
    have n1 : p ≠ D := (ne_of_none hD N.np).symm
    have n2 : ∀ c ∈ cs, c.1 ≠ D := fun c hc => (ne_of_none hD (N.nc c hc)).symm
    exact ⟨n1, cs, ⟨fresh_of (s.free N.np) (by rw [upd_ne n1]; exact N.ll.1), fun c hc => fresh_of (s.free (N.nc c hc)) (by rw [upd_ne (n2 c hc)]; exact N.ll.2 c hc)⟩, N.vals, n2⟩
theorem na_l3 {B : Hp} {pa : Addr} {ps : List Addr} {vs : List (List (List Int))} (hp : B pa = some (.lst (ps.map V.ref))) (h : F2 (LV B pa) ps vs) : L3 B pa (ps.zip vs) ∧ (ps.zip vs).map (·.2) = vs := by
  have e1 : (ps.zip vs).map (·.1) = ps := by
    clear hp
    induction h with
    | nil => rfl
    | cons _ _ ih => simp [ih]
  have e2 : (ps.zip vs).map (·.2) = vs := by
    clear hp e1
    induction h with
    | nil => rfl
    | cons _ _ ih => simp [ih]
  refine ⟨⟨?_, fun q hq => ?_⟩, e2⟩
  · rw [hp, ← e1, List.map_map]; rw [e1]; rfl
  · clear hp e1 e2
    induction h with
    | nil => simp at hq
    | cons r _ ih =>
      rcases List.mem_cons.mp (by simpa using hq : q ∈ (_, _) :: _) with z | z
      · subst z; exact r
      · exact ih z
theorem eqv_l3 {K : PySem.W.Frag} {H : Hp} {p q : Addr} {us ws : List (Addr × List (List Int))} (n : Nat) (h1 : L3 H p us) (h2 : L3 H q ws) (e : us.map (·.2) = ws.map (·.2)) (hl : us.length ≤ 100000) (h3 : ∀ u ∈ us, u.2.length ≤ 40 ∧ ∀ c ∈ u.2, c.length ≤ 100000) : Eqv K H (n + 3) (.ref p) (.ref q) := by
  have le : us.length = ws.length := by simpa using congrArg List.length e
  refine .lst (n + 2) (SqL.of h1.1) (SqL.of h2.1) (by rw [List.length_map, List.length_map]; exact le) (by rw [List.length_map]; omega) fun i x y e1 e2 => ?_
  rw [List.getElem?_map] at e1 e2
  cases ec : us[i]? with
  | none => rw [ec] at e1; cases e1
  | some c =>
    cases ed : ws[i]? with
    | none => rw [ed] at e2; cases e2
    | some f =>
      rw [ec] at e1; rw [ed] at e2
      cases e1; cases e2
      have e3 := congrArg (fun l => l[i]?) e
      simp only [List.getElem?_map, ec, ed, Option.map_some, Option.some.injEq] at e3
      obtain ⟨_, cs, q1, q2, _⟩ := h1.2 c (List.mem_of_getElem? ec)
      obtain ⟨_, ds, q3, q4, _⟩ := h2.2 f (List.mem_of_getElem? ed)
      obtain ⟨z1, z2⟩ := h3 c (List.mem_of_getElem? ec)
      rw [← q2, List.length_map] at z1
      exact eqv_ll n q1 q3 (by rw [q2, q4, e3]) z1 (fun w hw => z2 _ (by rw [← q2]; exact List.mem_map.mpr ⟨w, hw, rfl⟩))
theorem gName_to {i : Nat} {v : V} {σ : L2.St} {H : Hp} {Q : L2.St → Hp → Prop} (h : Q (σ.set i (some v)) H) : gName i v σ H Q := h
theorem set_split {te : TE} {i : Nat} {B : TS} {D : Ends} {σ : L2.St} {H : Hp} (I : V → Hp → Prop) (hB : ∀ v H, I v H → B D (σ.set i (some v)) H) (hA : ∀ Q : VK, (∀ v H, I v H → Q v H) → te σ H Q) : tSeq (tAsg te (gName i)) B D σ H := hA _ hB
theorem DeedAt.same {H H' : Hp} {t : Addr} {D : Deed} (h : DeedAt H t D) (s : Same H H') : DeedAt H' t D := h.up (fun _ _ e => s _ _ e) fun _ _ e => s _ _ e
theorem DeedAt.ext {H H' : Hp} {t : Addr} {D : Deed} (h : DeedAt H t D) (s : LamX.ExtN H H') : DeedAt H' t D := h.up (fun _ _ e => s _ _ e fun _ z => by cases z) fun _ _ e => s _ _ e fun _ z => by cases z
/-- a deed that stands off the part A -/
def offA (A H : Hp) : Hp := fun b => match A b with
  | none => H b
  | some _ => none
theorem offA_of {A H : Hp} {b : Addr} {o : HO} (n : A b = none) (e : H b = some o) : offA A H b = some o := by
  unfold offA; rw [n]; exact e
theorem offA_to {A H : Hp} {b : Addr} {o : HO} (e : offA A H b = some o) : A b = none ∧ H b = some o := by
  unfold offA at e
  cases q : A b with
  | none => rw [q] at e; exact ⟨rfl, e⟩
  | some u => rw [q] at e; cases e
theorem DeedAt.off {A H H' : Hp} {t : Addr} {D : Deed} (h : DeedAt (fresh H H') t D) (s : Sub A H) : DeedAt (offA A H') t D := by
  have key : ∀ b o, fresh H H' b = some o → offA A H' b = some o := fun b o e => by
    obtain ⟨n, e2⟩ := fresh_to e
    refine offA_of ?_ e2
    cases q : A b with
    | none => rfl
    | some u => rw [s b u q] at n; cases n
  exact h.up (fun _ _ e => key _ _ e) fun _ _ e => key _ _ e
theorem DeedAt.in_ {A H : Hp} {t : Addr} {D : Deed} (h : DeedAt (offA A H) t D) : DeedAt H t D := h.up (fun _ _ e => (offA_to e).2) fun _ _ e => (offA_to e).2
theorem DeedAt.offSame {A H H' : Hp} {t : Addr} {D : Deed} (h : DeedAt (offA A H) t D) (s : Same H H') : DeedAt (offA A H') t D := h.up (fun _ _ e => offA_of (offA_to e).1 (s _ _ (offA_to e).2)) fun _ _ e => offA_of (offA_to e).1 (s _ _ (offA_to e).2)
theorem DeedAt.offExt {A H H' : Hp} {t : Addr} {D : Deed} (h : DeedAt (offA A H) t D) (s : LamX.ExtN H H') : DeedAt (offA A H') t D := h.up (fun _ _ e => offA_of (offA_to e).1 (s _ _ (offA_to e).2 fun _ z => by cases z)) fun _ _ e => offA_of (offA_to e).1 (s _ _ (offA_to e).2 fun _ z => by cases z)
theorem DeedAt.offStp {A H A' H' : Hp} {t : Addr} {D : Deed} (h : DeedAt (offA A H) t D) (s : Stp A H A' H') : DeedAt H' t D := h.up (fun _ _ e => s.oth _ _ (offA_to e).2 (offA_to e).1) fun _ _ e => s.oth _ _ (offA_to e).2 (offA_to e).1
/-- the pile before a back: its first list, told -/
def Ahead (A H : Hp) (v : V) (N : Nl) (D : Deed) : Prop := ∃ (l : Addr) (cs : List (Addr × List Int)), v = .ref l ∧ LL H l cs ∧ (A l = none ∧ ∀ c ∈ cs, A c.1 = none) ∧ ∀ h, D = .back h → cs.map (·.2) = (pile N h).take 1
theorem na_pile {B H : Hp} {x : Nx} {N : Nl} (R : NA B x N) (s : Sub B H) {h : Int} (hh : 0 ≤ h ∧ h < (N.piles.length : Int)) : ∃ p cs, atI (x.ps.map V.ref) h = some (V.ref p) ∧ LL H p cs ∧ cs.map (·.2) = pile N h ∧ ∀ c ∈ cs, B c.1 = some (.lst (c.2.map V.int)) := by
  obtain ⟨p, hp, _, cs, l, e, _⟩ := R.pv.get (pileAt hh)
  refine ⟨p, cs, ?_, l.up s, e, l.2⟩
  have : h = ((h.toNat : Nat) : Int) := by omega
  rw [this]
  exact atI_nat (by rw [List.getElem?_map, hp]; rfl)
theorem ap_kept (N : Nl) (D : Deed) : (apN N D).kept.length ≤ N.kept.length + 1 := by
  cases D with
  | keep h => simp [apN]
  | forget p => simp only [apN, dr]; exact Nat.le_trans (List.length_filter_le _ _) (Nat.le_succ _)
  | _ => simp [apN]
theorem ap_many (N : Nl) (D : Deed) : (apN N D).many ≤ N.many + 1 := by
  cases D <;> simp only [apN] <;> omega
theorem shaped_str {x : Str} (h : PyData.strOk x = true) : SeqAt.shaped (.str x) = true := by simp [SeqAt.shaped, PyData.canLay0, PyData.depth, h]
theorem off_new {A H : Hp} (s : Sub A H) {l : Addr} (nl : H l = none) : A l = none := by
  cases q : A l with
  | none => rfl
  | some o => rw [s _ _ q] at nl; cases nl
theorem none_of_apart {A B : Hp} (h : Apart A B) {b : Addr} {o : HO} (e : B b = some o) : A b = none := by
  rcases h b with z | z
  · exact z
  · rw [z] at e; cases e
theorem cut01 (xs : List V) : cutV xs none (some 1) = xs.take 1 := by
  unfold cutV
  have e1 : HT.sIx xs.length 0 none = 0 := HT.sIx_none _ _
  have e2 : HT.sIx xs.length xs.length (some 1) = min 1 xs.length := by
    have : (1 : Int) = ((1 : Nat) : Int) := rfl
    rw [this, HT.sIx_nat]
  rw [e1, e2]
  simp
theorem if_split {c : TT} {t u B : TS} {D : Ends} {σ : L2.St} {H : Hp} (I : L2.St → Hp → Prop) (hB : ∀ σ H, I σ H → B D σ H) (hA : ∀ nx' : L2.St → Hp → Prop, (∀ σ H, I σ H → nx' σ H) → tIfS c t u { D with nx := nx' } σ H) : tSeq (tIfS c t u) B D σ H := hA _ hB
theorem seq_split {A B : TS} {D : Ends} {σ : L2.St} {H : Hp} (I : L2.St → Hp → Prop) (hB : ∀ σ H, I σ H → B D σ H) (hA : ∀ nx' : L2.St → Hp → Prop, (∀ σ H, I σ H → nx' σ H) → A { D with nx := nx' } σ H) : tSeq A B D σ H := hA _ hB
/-- all lists at the bottom are short -/
def Small (N : Nl) : Prop := (∀ v ∈ N.piles, ∀ c ∈ v, c.length ≤ 3) ∧ ∀ q ∈ N.kept, ∀ c ∈ q.2, c.length ≤ 3
theorem small_pile {N : Nl} (S : Small N) (h : Int) : ∀ c ∈ pile N h, c.length ≤ 3 := by
  unfold pile
  rw [List.getD_eq_getElem?_getD]
  cases e : N.piles[h.toNat]? with
  | none => simp
  | some v => exact S.1 v (List.mem_of_getElem? e)
theorem small_set {N : Nl} (S : Small N) (i : Nat) {z : List (List Int)} (hz : ∀ c ∈ z, c.length ≤ 3) : Small { N with piles := N.piles.set i z } :=
  ⟨fun v hv => by
    rcases mem_set hv with q | q
    · rw [q]; exact hz
    · exact S.1 v q, S.2⟩
theorem Small.ap {N : Nl} (S : Small N) {D : Deed} {hands : Int} (hD : InD hands D) : Small (apN N D) := by
  cases D with
  | call h vs =>
    refine small_set S _ fun c hc => ?_
    rcases List.mem_cons.mp hc with q | q
    · rw [q]; exact hD.2
    · exact small_pile S h c q
  | back h => exact small_set S _ fun c hc => small_pile S h c (List.mem_of_mem_drop hc)
  | put h d s v =>
    refine small_set S _ fun c hc => ?_
    rcases mem_set hc with q | q
    · rw [q, List.length_set]
      rw [List.getD_eq_getElem?_getD]
      cases e : (pile N h)[d.toNat]? with
      | none => simp
      | some u => exact small_pile S h u (List.mem_of_getElem? e)
    · exact small_pile S h c q
  | branch h o => exact small_set S _ fun c hc => small_pile S h c hc
  | keep h =>
    refine ⟨S.1, fun q hq => ?_⟩
    rcases List.mem_append.mp hq with z | z
    · exact S.2 q z
    · have : q = (N.many, pile N h) := by simpa using z
      subst this; exact small_pile S h
  | leap h p =>
    refine small_set S _ fun c hc => ?_
    cases e : lk N.kept p with
    | none => rw [e] at hc; simp at hc
    | some u => rw [e] at hc; exact S.2 _ (lk_mem e) c hc
  | forget p => exact ⟨S.1, fun q hq => S.2 q (List.mem_filter.mp hq).1⟩
theorem small0 (hv : Int) : Small (nl (newW hv 40)) := by
  refine ⟨fun v h c hc => ?_, fun q hq => ?_⟩
  · obtain ⟨q, hq, e⟩ := List.mem_map.mp (show v ∈ (List.replicate hv.toNat (none : Option Int)).map (vl []) from h)
    rw [List.eq_of_mem_replicate hq, vl_nil] at e
    rw [← e] at hc; simp at hc
  · have hq : q ∈ ([] : List (Int × List (List Int))) := hq
    simp at hq
/-- a deed that was done, whatever was asked ahead -/
theorem did_ok {W : Wd} (F : WFW W) {D : Deed} {r : Res} {W' : Wd} (ed : doDeed W D = .ok (r, W')) : Did W D r W' ∧ canN (nl W) D = true ∧ ∀ h vs, D = .call h vs → vs.length ≤ 3 := by
  cases D with
  | call h vs =>
    cases e : doCall W h vs with
    | error x => simp only [doDeed, e, okM] at ed; cases ed
    | ok q =>
      obtain ⟨n, W1⟩ := q
      simp only [doDeed, e, okM, Except.ok.injEq, Prod.mk.injEq] at ed
      obtain ⟨e1, e2⟩ := ed
      subst e2
      obtain ⟨k, f, h1, h2, _, h4, h5⟩ := doCall_ok F e
      exact ⟨⟨f, Nl.ext' (by show vals W1 = _; rw [h1, ← pile_nl k]; rfl) h2 h4, len_set h1, fun h z => by cases z⟩, rfl, fun h vs z => by cases z; exact h5⟩
  | back h =>
    cases e : doBack W h with
    | error x => simp only [doDeed, e, okM] at ed; cases ed
    | ok q =>
      obtain ⟨vs, W1⟩ := q
      simp only [doDeed, e, okM, Except.ok.injEq, Prod.mk.injEq] at ed
      obtain ⟨e1, e2⟩ := ed
      subst e2 e1
      obtain ⟨k, f, ⟨t, ht, h1⟩, h2, h4, _⟩ := doBack_ok F e
      refine ⟨⟨f, Nl.ext' (by show vals W1 = (vals W).set h.toNat ((pile (nl W) h).drop 1); rw [h1, pile_nl k, ht]; rfl) h2 h4, len_set h1, fun h' z => ?_⟩, ?_, fun h vs z => by cases z⟩
      · cases z
        exact ⟨vs, t, rfl, by rw [pile_nl k]; exact ht⟩
      · show (!(pile (nl W) h).isEmpty) = true
        rw [pile_nl k, ht]; rfl
  | put h d s v =>
    cases e : doPut W h d s v with
    | error x => simp only [doDeed, e, okM] at ed; cases ed
    | ok q =>
      obtain ⟨n, W1⟩ := q
      simp only [doDeed, e, okM, Except.ok.injEq, Prod.mk.injEq] at ed
      obtain ⟨e1, e2⟩ := ed
      subst e2
      have P := doPut_ok F e
      refine ⟨⟨P.wfw, Nl.ext' (by show vals W1 = _; rw [P.vals, ← pile_nl P.hok]; rfl) P.kept P.many, len_set P.vals, fun h z => by cases z⟩, ?_, fun h vs z => by cases z⟩
      show (decide (d < ((pile (nl W) h).length : Int)) && decide (s < (((pile (nl W) h).getD d.toNat []).length : Int))) = true
      rw [pile_nl P.hok, decide_eq_true P.dl, decide_eq_true P.sl]; rfl
  | branch h o =>
    cases e : doBranch W h o with
    | error x => simp only [doDeed, e, okM] at ed; cases ed
    | ok W1 =>
      simp only [doDeed, e, okM, Except.ok.injEq, Prod.mk.injEq] at ed
      obtain ⟨e1, e2⟩ := ed
      subst e2
      obtain ⟨k, _, f, h1, h2, h4⟩ := doBranch_ok F e
      exact ⟨⟨f, Nl.ext' (by show vals W1 = _; rw [h1, ← pile_nl k]; rfl) h2 h4, len_set h1, fun h z => by cases z⟩, rfl, fun h vs z => by cases z⟩
  | keep h =>
    cases e : doKeep W h with
    | error x => simp only [doDeed, e, okM] at ed; cases ed
    | ok q =>
      obtain ⟨n, W1⟩ := q
      simp only [doDeed, e, okM, Except.ok.injEq, Prod.mk.injEq] at ed
      obtain ⟨e1, e2⟩ := ed
      subst e2
      obtain ⟨k, rfl, _, f, h1, h2, h4⟩ := doKeep_ok F e
      refine ⟨⟨f, Nl.ext' h1 (by show kept W1 = _; rw [h2, ← pile_nl k]; rfl) h4, ?_, fun h z => by cases z⟩, rfl, fun h vs z => by cases z⟩
      rw [← len_vals, h1, len_vals]
  | leap h p =>
    cases e : doLeap W h p with
    | error x => simp only [doDeed, e, okM] at ed; cases ed
    | ok W1 =>
      simp only [doDeed, e, okM, Except.ok.injEq, Prod.mk.injEq] at ed
      obtain ⟨e1, e2⟩ := ed
      subst e2
      obtain ⟨k, x, hx, f, h1, h2, h4⟩ := doLeap_ok F e
      refine ⟨⟨f, Nl.ext' ?_ h2 h4, len_set h1, fun h z => by cases z⟩, ?_, fun h vs z => by cases z⟩
      · show vals W1 = (vals W).set h.toNat ((lk (kept W) p).getD [])
        rw [h1, lk_kept, hx]; rfl
      · show has (kept W) p = true
        unfold has; rw [lk_kept, hx]; rfl
  | forget p =>
    cases e : doForget W p with
    | error x => simp only [doDeed, e, okM] at ed; cases ed
    | ok W1 =>
      simp only [doDeed, e, okM, Except.ok.injEq, Prod.mk.injEq] at ed
      obtain ⟨e1, e2⟩ := ed
      subst e2
      obtain ⟨x, hx, _, f, h1, h2, h4⟩ := doForget_ok F e
      refine ⟨⟨f, Nl.ext' h1 h2 h4, ?_, fun h z => by cases z⟩, ?_, fun h vs z => by cases z⟩
      · rw [← len_vals, h1, len_vals]
      · show has (kept W) p = true
        unfold has; rw [lk_kept, hx]; rfl
theorem Small.did {W W' : Wd} {D : Deed} {r : Res} (S : Small (nl W)) (F : WFW W) (ed : doDeed W D = .ok (r, W')) : Small (nl W') := by
  obtain ⟨d, _, h3⟩ := did_ok F ed
  rw [d.nl]
  cases D with
  | call h vs =>
    refine small_set S _ fun c hc => ?_
    rcases List.mem_cons.mp hc with q | q
    · rw [q]; exact h3 h vs rfl
    · exact small_pile S h c q
  | back h => exact small_set S _ fun c hc => small_pile S h c (List.mem_of_mem_drop hc)
  | put h dd s v =>
    refine small_set S _ fun c hc => ?_
    rcases mem_set hc with q | q
    · rw [q, List.length_set, List.getD_eq_getElem?_getD]
      cases e : (pile (nl W) h)[dd.toNat]? with
      | none => simp
      | some u => exact small_pile S h u (List.mem_of_getElem? e)
    · exact small_pile S h c q
  | branch h o => exact small_set S _ fun c hc => small_pile S h c hc
  | keep h =>
    refine ⟨S.1, fun q hq => ?_⟩
    rcases List.mem_append.mp hq with z | z
    · exact S.2 q z
    · have : q = ((nl W).many, pile (nl W) h) := by simpa using z
      subst this; exact small_pile S h
  | leap h p =>
    refine small_set S _ fun c hc => ?_
    cases e : lk (nl W).kept p with
    | none => rw [e] at hc; simp at hc
    | some u => rw [e] at hc; exact S.2 _ (lk_mem e) c hc
  | forget p => exact ⟨S.1, fun q hq => S.2 q (List.mem_filter.mp hq).1⟩
theorem wipe1 (σ : L2.St) (j : Nat) (v : V) : (wipe σ [j]).set j (some v) = σ.set j (some v) := by
  simp [wipe]
/-- [wood.look(h) for h in range(hands)] -/
theorem looks {K : PySem.W.Frag} {mg : Str → Option Value} (T : Txt K mg) {A H : Hp} {x : Ad} {W : Wd} {σ : L2.St} {i w j : Nat} {Q : VK} (hh : σ[i]? = some (some (.int (W.tops.length : Int)))) (hw : σ[w]? = some (some (.ref x.p))) (hj : j < σ.length) (nw : w ≠ j) (s : Sub A H) (R : WA K A x W) (F : WFW W)
    (k : ∀ H' D qs, H D = none → L3 (fresh H H') D qs → qs.map (·.2) = vals W → Same H H' → Q (.ref D) H') : tLc (iRng1 (tCons (tVar i) tNil)) (gName j) tYes (tMeth (He.ga K "Wood") "look" (spLook K) [] E0 (tVar w) (tCons (tVar j) tNil)) [j] σ H Q := by
  have hp := s _ _ R.ins
  have h6 := F.h6
  refine ⟨_, hh, (W.tops.length : Int), rfl, by omega, by omega, fun D nD => ?_⟩
  refine lc_range (lo := 0) (n := ((W.tops.length : Nat) : Int).toNat) (fun i H' => ∃ qs : List (Addr × List (List Int)), L3 (fresh H H') D qs ∧ qs.map (·.2) = (vals W).take i ∧ Same H H') ⟨[], ⟨fresh_of nD upd_same, by simp⟩, rfl, same_new nD _⟩ ?_ ?_
  · rintro m H' hm ⟨qs, h1, h2, h3⟩
    have hk : hOk W (0 + (m : Int)) := ⟨by omega, by omega⟩
    have q1 : (σ.set j (some (V.int (0 + (m : Int)))))[w]? = some (some (.ref x.p)) := by rw [List.getElem?_set_ne (Ne.symm nw)]; exact hw
    have q2 : (σ.set j (some (V.int (0 + (m : Int)))))[j]? = some (some (V.int (0 + (m : Int)))) := List.getElem?_set_self hj
    refine gName_to ?_
    rw [wipe1]
    refine ⟨?_, yesT rfl ?_⟩
    · simp [wipe]
    refine ⟨_, q1, x.p, _, _, rfl, h3 _ _ hp, wf_no (by decide +kernel), _, q2, A, x, W, _, rfl, ⟨s.same h3, R, F⟩, fun _ H'' p cs N => ?_, fun hk' => absurd hk hk'⟩
    have hz : (vals W)[m]? = some (vl W.frames (top W (0 + (m : Int)))) := by
      have := top_get hk
      rw [show (0 + (m : Int)).toNat = m by omega] at this
      unfold vals; rw [List.getElem?_map, this]; rfl
    have lq2 := congrArg List.length h2
    rw [List.length_map, List.length_take] at lq2
    exact ⟨_, N.same _ _ (fresh_to h1.1).2, szl (by rw [List.length_map]; omega), _, h1.snocF N h3, by rw [List.map_append, h2, take_snocA hz]; rfl, fun b o e => by rw [upd_ne (ne_of_none e nD)]; exact N.same _ _ (h3 b o e)⟩
  · rintro H3 ⟨qs, h1, h2, h3⟩
    have hvl : (vals W).length = ((W.tops.length : Nat) : Int).toNat := by rw [len_vals]; omega
    rw [← hvl, List.take_length] at h2
    exact k H3 D qs nD h1 h2 h3
/-- [len(wood.look(h)) for h in range(hands)] -/
theorem lens {K : PySem.W.Frag} {mg : Str → Option Value} (T : Txt K mg) {A H : Hp} {x : Ad} {W : Wd} {σ : L2.St} {i w j : Nat} {Q : VK} (hh : σ[i]? = some (some (.int (W.tops.length : Int)))) (hw : σ[w]? = some (some (.ref x.p))) (hj : j < σ.length) (nw : w ≠ j) (s : Sub A H) (R : WA K A x W) (F : WFW W)
    (k : ∀ H' D, H D = none → H' D = some (.lst (((vals W).map fun v => (v.length : Int)).map V.int)) → Same H H' → Q (.ref D) H') : tLc (iRng1 (tCons (tVar i) tNil)) (gName j) tYes (tCB (rLenK K) (tCons (tMeth (He.ga K "Wood") "look" (spLook K) [] E0 (tVar w) (tCons (tVar j) tNil)) tNil)) [j] σ H Q := by
  have hp := s _ _ R.ins
  have h6 := F.h6
  refine ⟨_, hh, (W.tops.length : Int), rfl, by omega, by omega, fun D nD => ?_⟩
  refine lc_range (lo := 0) (n := ((W.tops.length : Nat) : Int).toNat) (fun i H' => H' D = some (.lst ((((vals W).take i).map fun v => (v.length : Int)).map V.int)) ∧ Same H H') ⟨upd_same, same_new nD _⟩ ?_ ?_
  · rintro m H' hm ⟨h1, h3⟩
    have hk : hOk W (0 + (m : Int)) := ⟨by omega, by omega⟩
    have q1 : (σ.set j (some (V.int (0 + (m : Int)))))[w]? = some (some (.ref x.p)) := by rw [List.getElem?_set_ne (Ne.symm nw)]; exact hw
    have q2 : (σ.set j (some (V.int (0 + (m : Int)))))[j]? = some (some (V.int (0 + (m : Int)))) := List.getElem?_set_self hj
    refine gName_to ?_
    rw [wipe1]
    refine ⟨?_, yesT rfl ?_⟩
    · simp [wipe]
    have hz : (vals W)[m]? = some (vl W.frames (top W (0 + (m : Int)))) := by
      have := top_get hk
      rw [show (0 + (m : Int)).toNat = m by omega] at this
      unfold vals; rw [List.getElem?_map, this]; rfl
    refine ⟨_, q1, x.p, _, _, rfl, h3 _ _ hp, wf_no (by decide +kernel), _, q2, A, x, W, _, rfl, ⟨s.same h3, R, F⟩, fun _ H'' p cs N => ⟨p, _, rfl, .inl (SqL.of N.ll.1), ?_⟩, fun hk' => absurd hk hk'⟩
    refine ⟨_, N.same _ _ h1, szl (by rw [List.length_map, List.length_map, List.length_take]; omega), ?_, fun b o e => by rw [upd_ne (ne_of_none e nD)]; exact N.same _ _ (h3 b o e)⟩
    rw [upd_same, take_snocA hz, List.map_append, List.map_append, ← N.vals]; simp
  · rintro H3 ⟨h1, h3⟩
    have hvl : (vals W).length = ((W.tops.length : Nat) : Int).toNat := by rw [len_vals]; omega
    rw [← hvl, List.take_length] at h1
    exact k H3 D nD h1 h3
/-- the parts behind the making of a wood, at H5, beside the dice -/
theorem wld_made {T : List (Addr × Str)} {H5 H6 A' : Hp} {y dx d a : Addr} {u v : HO} (ny : H5 y = none) (ndx : H5 dx = none) (S6 : Sub A' H6) (kp : Kp y (upd (upd H5 dx u) y v) H6) (new : ∀ b, A' b ≠ none → b = y ∨ upd (upd H5 dx u) y v b = none) (t : LamX.Tabs T H5) :
    Wld T H6 (pl A') (fun _ => none) (pl (diC H5 d a)) ∧ ∀ b o, H5 b = some o → H6 b = some o := by
  have up5 : ∀ b o, H5 b = some o → H6 b = some o := fun b o e => kp b o (ne_of_none e ny) (by rw [upd_ne (ne_of_none e ny), upd_ne (ne_of_none e ndx)]; exact e)
  have key : Apart A' (diC H5 d a) := fun b => by
    cases q : A' b with
    | none => exact .inl rfl
    | some w =>
      refine .inr ?_
      cases q5 : H5 b with
      | none => exact diC_none q5
      | some o =>
        rcases new b (by rw [q]; simp) with z | z
        · subst z; rw [ny] at q5; cases q5
        · rw [upd_ne (ne_of_none q5 ny), upd_ne (ne_of_none q5 ndx), q5] at z; cases z
  have e0 : ∀ b (o : HO), (fun _ => none : Hp) b = some o → False := fun b o e => nomatch e
  exact ⟨⟨S6.pl, fun b o e => (e0 b o e).elim, Sub.pl fun b o e => up5 b o (diC_sub _ _ _ b o e), fun b => .inr rfl, (key.pl.symm.pl).symm, fun b => .inl rfl, pl_pl _, fun b o e => (e0 b o e).elim, pl_pl _, t.ext up5⟩, up5⟩
theorem seq_of {t u : TS} {D : Ends} {σ : L2.St} {H : Hp} (h : t { D with nx := u D } σ H) : tSeq t u D σ H := h
theorem asg_of {te : TE} {g : TG} {D : Ends} {σ : L2.St} {H : Hp} (h : te σ H fun v H' => g v σ H' D.nx) : tAsg te g D σ H := h
theorem drop_of {te : TE} {D : Ends} {σ : L2.St} {H : Hp} (h : te σ H fun _ H' => D.nx σ H') : tDrop te D σ H := h
theorem ret_of {te : TE} {D : Ends} {σ : L2.St} {H : Hp} (h : te σ H D.rt) : tRet te D σ H := h
theorem cb_of {r : List V → Hp → VK → Prop} {ta : TA} {σ : L2.St} {H : Hp} {Q : VK} (h : ta σ H fun vs H1 => r vs H1 Q) : tCB r ta σ H Q := h
theorem cons_of {te : TE} {ta : TA} {σ : L2.St} {H : Hp} {Q : List V → Hp → Prop} (h : te σ H fun v H1 => ta σ H1 fun vs H2 => Q (v :: vs) H2) : tCons te ta σ H Q := h
theorem call_of {sp : Sp} {dvs : List V} {E : XK} {ta : TA} {σ : L2.St} {H : Hp} {Q : VK} (h : ta σ H fun vs H1 => sp (vs ++ dvs) H1 Q E) : tCall sp dvs E ta σ H Q := h
theorem ifs_of {c : TT} {t u : TS} {D : Ends} {σ : L2.St} {H : Hp} (h : c σ H fun b H1 => if b = true then t D σ H1 else u D σ H1) : tIfS c t u D σ H := h
theorem not_of {t : TT} {σ : L2.St} {H : Hp} {Q : Bool → Hp → Prop} (h : t σ H fun b H1 => Q (!b) H1) : tNot t σ H Q := h
theorem tb_of {t : TE} {σ : L2.St} {H : Hp} {Q : Bool → Hp → Prop} (h : t σ H fun x H1 => ∃ c, x = .bl c ∧ Q c H1) : tB t σ H Q := h
end Sk
end
section
/-! SwX: more moves of parts side by side; what calls tells, alike. -/
namespace Sk
open PySem PySem.Spec PyProof.Rows L2 SW
/-- x.m(..) of a built-in class, off the written part -/
theorem pe_bmK {X : Cx} (K : PySem.W.Frag) (hK : X.K = K) {o e : Expr} {es : List Expr} {to : TE} {t : TA} {name : Str} {apos cpos : Pos} {T id : String} {r : V → List V → Hp → VK → Prop} (pa : PlainAttrs T) (slot : Slot T name id) (hty : typeOf (.builtin id) = pure (.type "method_descriptor")) (hm : MtR X id r) (ho : PE X o to) (ha : PA X (e :: es) t)
    (hbase : attributeBase o name X.env (eval o X.env) = eval o X.env := by rfl)
    (hfew : ((backTo cpos (starEach (e :: es) X.env)).all (fun x => !x.1) && (backToKw cpos (keywordEach [] X.env)).all (fun x => x.1.isSome)
      && decide ((e :: es).length + ([] : List Keyword).length + (if ([] : List Keyword).isEmpty then 0 else 1) < 30)) = true := by rfl)
    (hline : (apos.endLine == cpos.line) = true := by rfl) (hs : starEach (e :: es) X.env = (false, eval e X.env) :: starEach es X.env := by rfl) (hplain : (backTo cpos (starEach es X.env)).any (·.1) = false := by rfl) :
    PE X (.Call (.Attribute o name apos) (e :: es) [] cpos) (tBM K T r to t) := by
  subst hK; exact pe_bm pa slot hty hm ho ha hbase hfew hline hs hplain
section
variable {T : List (Addr × Str)} {H H' A B C A' B' C' : Hp}
theorem Wld.rot (w : Wld T H A B C) : Wld T H A C B := ⟨w.sA, w.sC, w.sB, w.ac, w.ab, w.bc.symm, w.pA, w.pC, w.pB, w.tb⟩
theorem Wld.stC (w : Wld T H A B C) (s : Stp C H C' H') : Wld T H' A B (pl C') := (w.rot.stB s).rot
/-- one object more is C's -/
theorem Wld.join (w : Wld T H A B C) {a : Addr} {o : HO} (e : H a = some o) (nA : A a = none) (nB : B a = none) (n1 : ∀ ps, o ≠ .tbl ps) (n2 : ∀ f, o ≠ .ext f) : Wld T H A B (upd C a o) := by
  refine ⟨w.sA, w.sB, fun b u q => ?_, w.ab, fun b => ?_, fun b => ?_, w.pA, w.pB, fun b u q => ?_, w.tb⟩
  · by_cases z : b = a
    · subst z; rw [upd_same] at q; cases q; exact e
    · rw [upd_ne z] at q; exact w.sC b u q
  · by_cases z : b = a
    · subst z; exact .inl nA
    · rw [upd_ne z]; exact w.ac b
  · by_cases z : b = a
    · subst z; exact .inl nB
    · rw [upd_ne z]; exact w.bc b
  · by_cases z : b = a
    · subst z; rw [upd_same] at q; cases q; exact ⟨n1, n2⟩
    · rw [upd_ne z] at q; exact w.pC b u q
/-- what N has beside C -/
def jn (C N : Hp) : Hp := fun b => match C b with
  | some o => some o
  | none => pl N b
theorem jn_old {C N : Hp} {b : Addr} {o : HO} (e : C b = some o) : jn C N b = some o := by unfold jn; rw [e]
theorem jn_new {C N : Hp} (sC : Sub C H') (sN : Sub N H') {b : Addr} {o : HO} (e : N b = some o) (n1 : ∀ ps, o ≠ .tbl ps) (n2 : ∀ f, o ≠ .ext f) : jn C N b = some o := by
  unfold jn
  cases q : C b with
  | some u =>
    have := (sC b u q).symm.trans (sN b o e)
    exact this
  | none => exact pl_to e n1 n2
theorem jn_to {C N : Hp} {b : Addr} {o : HO} (e : jn C N b = some o) : C b = some o ∨ (C b = none ∧ pl N b = some o) := by
  unfold jn at e
  cases q : C b with
  | some u => rw [q] at e; exact .inl e
  | none => rw [q] at e; exact .inr ⟨rfl, e⟩
theorem jn_none {C N : Hp} {b : Addr} (h1 : C b = none) (h2 : N b = none) : jn C N b = none := by
  unfold jn; rw [h1]; unfold pl; rw [h2]
theorem fresh_sub (H H' : Hp) : Sub (fresh H H') H' := fun b o e => (fresh_to e).2
theorem fresh_none {H H' : Hp} {b : Addr} {o : HO} (e : H b = some o) : fresh H H' b = none := by unfold fresh; rw [e]
/-- all that is new since H is C's, too -/
theorem Wld.joinF (w : Wld T H' A B C) {H : Hp} (sA : Sub A H) (sB : Sub B H) : Wld T H' A B (jn C (fresh H H')) := by
  have ap : ∀ {D : Hp}, Sub D H → Apart D C → Apart D (jn C (fresh H H')) := fun {D} s h b => by
    cases q : D b with
    | none => exact .inl rfl
    | some o =>
      refine .inr (jn_none ?_ (fresh_none (s b o q)))
      rcases h b with z | z
      · rw [q] at z; cases z
      · exact z
  refine ⟨w.sA, w.sB, fun b u q => ?_, w.ab, ap sA w.ac, ap sB w.bc, w.pA, w.pB, fun b u q => ?_, w.tb⟩
  · rcases jn_to q with z | ⟨_, z⟩
    · exact w.sC b u z
    · exact (fresh_to (pl_of z).1).2
  · rcases jn_to q with z | ⟨_, z⟩
    · exact w.pC b u z
    · exact (pl_of z).2
/-- a list that is nobody's is changed -/
theorem Wld.gar (w : Wld T H A B C) {a : Addr} {xs ys : List V} (e : H a = some (.lst xs)) (nA : A a = none) (nB : B a = none) (nC : C a = none) : Wld T (upd H a (.lst ys)) A B C := by
  have k : ∀ {D : Hp}, Sub D H → D a = none → Sub D (upd H a (.lst ys)) := fun {D} s n b o q => by
    rw [upd_ne (fun z => by rw [z, n] at q; cases q)]; exact s b o q
  refine ⟨k w.sA nA, k w.sB nB, k w.sC nC, w.ab, w.ac, w.bc, w.pA, w.pB, w.pC, tabs_by w.tb (fun b ps q => ?_) (fun b f q => ?_)⟩
  · rw [upd_ne (fun z => by rw [z, e] at q; cases q)]; exact q
  · rw [upd_ne (fun z => by rw [z, e] at q; cases q)]; exact q
/-- behind draws, C's other cells stay -/
theorem Wld.drawnK {K : PySem.W.Frag} (w : Wld T H A B C) {d a : Addr} {ns : List Int} (D : Die K C d a ns) (k : Kp d H H') (D' : Dice H' d a) : ∃ C', Wld T H' A B C' ∧ Die K C' d a ns ∧ ∀ b, b ≠ d → C' b = C b := by
  obtain ⟨n, i, m, r, h, e⟩ := D.dice
  obtain ⟨_, i', m', r', h', e'⟩ := D'
  refine ⟨_, w.cell k e e', ⟨⟨n, i', m', r', h', upd_same⟩, ?_⟩, fun b z => upd_ne z⟩
  exact sq_upd D.scr e n
theorem Die.jn {K : PySem.W.Frag} {C N : Hp} {d a : Addr} {ns : List Int} (D : Die K C d a ns) : Die K (Sk.jn C N) d a ns := by
  obtain ⟨n, i, m, r, h, e⟩ := D.dice
  exact ⟨⟨n, i, m, r, h, jn_old e⟩, Same.seq (fun b o e => jn_old e) D.scr⟩
theorem Die.upd {K : PySem.W.Frag} {C : Hp} {d a b : Addr} {o : HO} {ns : List Int} (D : Die K C d a ns) (s : Sub C H) (n : H b = none ∨ C b = none) : Die K (L2.upd C b o) d a ns := by
  have cn : C b = none := by
    rcases n with n | n
    · cases q : C b with
      | none => rfl
      | some u => rw [s b u q] at n; cases n
    · exact n
  obtain ⟨n, i, m, r, h, e⟩ := D.dice
  exact ⟨⟨n, i, m, r, h, (upd_ne (ne_of_none e cn)).trans e⟩, Same.seq (same_new cn o) D.scr⟩
/-- a wood made beside others -/
theorem stp_made {A' : Hp} {y dx : Addr} {u v : HO} (ny : H y = none) (ndx : H dx = none) (S7 : Sub A' H') (kp : Kp y (L2.upd (L2.upd H dx u) y v) H') (new : ∀ b, A' b ≠ none → b = y ∨ L2.upd (L2.upd H dx u) y v b = none) : Stp (fun _ => none) H A' H' := by
  refine ⟨S7, fun b o e _ => kp b o (ne_of_none e ny) (by rw [upd_ne (ne_of_none e ny), upd_ne (ne_of_none e ndx)]; exact e), fun b _ m => ?_⟩
  rcases new b m with z | z
  · subst z; exact ny
  · by_cases q : b = y
    · subst q; exact ny
    · by_cases q2 : b = dx
      · subst q2; exact ndx
      · rw [upd_ne q, upd_ne q2] at z; exact z
end
theorem small_slots {W : Wd} (F : WFW W) (S : Small (nl W)) {r : Int} {f : Fr} (h : lk W.frames r = some f) : f.slots.length ≤ 3 := by
  obtain ⟨y, hy, hr⟩ := F.reached h
  have hs : f.slots ∈ vl W.frames y := by
    unfold vl
    exact List.mem_map.mpr ⟨r, hr, sl_of h⟩
  rcases List.mem_append.mp hy with z | z
  · exact S.1 _ (List.mem_map.mpr ⟨y, z, rfl⟩) _ hs
  · obtain ⟨q, hq, rfl⟩ := List.mem_map.mp z
    exact S.2 (q.1, vl W.frames q.2) (List.mem_map.mpr ⟨q, hq, rfl⟩) _ hs
/-! ### what calls tells, alike -/
theorem rows_same {W V : Wd} (ef : V.frames = W.frames) {ts us : List CRow} (R : Rows W ts) (S : Rows V us) : ts.map (fun t => t.2.2) = us.map (fun t => t.2.2) := by
  obtain ⟨r1, r2, r3⟩ := R
  obtain ⟨s1, s2, s3⟩ := S
  rw [ef] at s1
  have e : ts.map (fun t => t.2.2.1) = us.map (fun t => t.2.2.1) := List.Perm.eq_of_pairwise (fun a b _ _ h1 h2 => Int.le_antisymm h1 h2) r2 s2 (r1.trans s1.symm)
  have le : ts.length = us.length := by simpa using congrArg List.length e
  apply List.ext_getElem?
  intro i
  rw [List.getElem?_map, List.getElem?_map]
  have ei := congrArg (fun l => l[i]?) e
  simp only [List.getElem?_map] at ei
  cases h1 : ts[i]? with
  | none =>
    cases h2 : us[i]? with
    | none => rfl
    | some t => rw [h1, h2] at ei; cases ei
  | some t =>
    cases h2 : us[i]? with
    | none => rw [h1, h2] at ei; cases ei
    | some t' =>
      rw [h1, h2] at ei
      have ei : t.2.2.1 = t'.2.2.1 := Option.some.inj ei
      have q1 := r3 t (List.mem_of_getElem? h1)
      have q2 := s3 t' (List.mem_of_getElem? h2)
      rw [ef, ← ei, q1] at q2
      have q3 : t.2.2 = t'.2.2 := Prod.ext ei (Option.some.inj q2)
      simp [q3]
theorem eqv_oV {K : PySem.W.Frag} {H : Hp} (n : Nat) (b : Option Int) : Eqv K H n (oV b) (oV b) := by
  cases b with
  | none => exact .non n
  | some r => exact .int n r
theorem eqv_calls {K : PySem.W.Frag} {H : Hp} {p q : Addr} {ts us : List CRow} (n : Nat) (hp : H p = some (.lst (ts.map fun t => V.ref t.1))) (hq : H q = some (.lst (us.map fun t => V.ref t.1))) (rt : ∀ t ∈ ts, RowAt H t) (ru : ∀ t ∈ us, RowAt H t) (e : ts.map (fun t => t.2.2) = us.map (fun t => t.2.2)) (hl : ts.length ≤ 100000) (hs : ∀ t ∈ ts, t.2.2.2.slots.length ≤ 100000) : Eqv K H (n + 3) (.ref p) (.ref q) := by
  have le : ts.length = us.length := by simpa using congrArg List.length e
  refine .lst (n + 2) (SqL.of hp) (SqL.of hq) (by rw [List.length_map, List.length_map]; exact le) (by rw [List.length_map]; omega) fun i x y e1 e2 => ?_
  rw [List.getElem?_map] at e1 e2
  cases ec : ts[i]? with
  | none => rw [ec] at e1; cases e1
  | some t =>
    cases ed : us[i]? with
    | none => rw [ed] at e2; cases e2
    | some u =>
      rw [ec] at e1; rw [ed] at e2
      cases e1; cases e2
      have ei := congrArg (fun l => l[i]?) e
      simp only [List.getElem?_map, ec, ed, Option.map_some, Option.some.injEq] at ei
      obtain ⟨a1, a2⟩ := rt t (List.mem_of_getElem? ec)
      obtain ⟨b1, b2⟩ := ru u (List.mem_of_getElem? ed)
      have sl := hs t (List.mem_of_getElem? ec)
      rw [← ei] at b1 b2
      refine .tup (n + 1) (SqT.of a1) (SqT.of b1) rfl (by show 4 ≤ 100000; omega) fun j x y q1 q2 => ?_
      match j with
      | 0 => cases q1; cases q2; exact .int _ _
      | 1 => cases q1; cases q2; exact eqv_oV _ _
      | 2 => cases q1; cases q2; exact .int _ _
      | 3 => cases q1; cases q2; exact eqv_ints n (SqL.of a2) (SqL.of b2) sl
      | k + 4 => cases q1
theorem eqv_res {K : PySem.W.Frag} {H1 H2 H1' H2' H : Hp} {u v : V} {r : Res} (h1 : ResAt H1 H1' u r) (h2 : ResAt H2 H2' v r) (s1 : ∀ l xs, H1 l = none → H1' l = some (.lst xs) → H l = some (.lst xs)) (s2 : ∀ l xs, H2 l = none → H2' l = some (.lst xs) → H l = some (.lst xs)) (hz : ∀ zs, r = .lst zs → zs.length ≤ 100000) (n : Nat) : Eqv K H (n + 1) v u := by
  cases r with
  | int i =>
    have h1 : u = .int i := h1
    have h2 : v = .int i := h2
    subst h1 h2; exact .int _ _
  | non =>
    have h1 : u = .non := h1
    have h2 : v = .non := h2
    subst h1 h2; exact .non _
  | lst zs =>
    obtain ⟨l, rfl, n1, q1⟩ := h1
    obtain ⟨m, rfl, n2, q2⟩ := h2
    exact eqv_ints n (SqL.of (s2 _ _ n2 q2)) (SqL.of (s1 _ _ n1 q1)) (hz zs rfl)
end Sk
end
section
/-! SwMw: the law's own wood, a dict of dicts. -/
namespace Sk
open PySem PySem.Spec PyProof.Rows L2 SW
structure Mw where
  rooms : Int
  on : List (Int × Option Int)
  sl : List (Int × List Int)
  tops : List (Option Int)
  marks : List (Int × Option Int)
  many : Int
  made : Int
def mw (W : Wd) : Mw := ⟨W.rooms, onL W.frames, slL W.frames, W.tops, W.marks, W.many, W.made⟩
structure Mx where
  w : Addr
  oa : Addr
  sa : Addr
  ta : Addr
  ma : Addr
  so : Int → Addr
def mD (x : Mx) (rooms many made : Int) : List (Key × V) := [(Sum.inr "rooms", .int rooms), (Sum.inr "on", .ref x.oa), (Sum.inr "slots", .ref x.sa), (Sum.inr "tops", .ref x.ta), (Sum.inr "marks", .ref x.ma), (Sum.inr "many", .int many), (Sum.inr "made", .int made)]
def slV (so : Int → Addr) (sl : List (Int × List Int)) : List (Key × V) := sl.map fun q => (Sum.inl q.1, V.ref (so q.1))
structure MA (B : Hp) (x : Mx) (M : Mw) : Prop where
  wd : B x.w = some (.dK (mD x M.rooms M.many M.made))
  on : B x.oa = some (.dK (mkV M.on))
  sl : B x.sa = some (.dK (slV x.so M.sl))
  tp : B x.ta = some (.lst (M.tops.map oV))
  mks : B x.ma = some (.dK (mkV M.marks))
  ss : ∀ r v, lk M.sl r = some v → B (x.so r) = some (.lst (v.map V.int))
  si : ∀ r s u v, lk M.sl r = some u → lk M.sl s = some v → x.so r = x.so s → r = s
  st : ∀ r v, lk M.sl r = some v → x.so r ≠ x.ta
  d1 : x.w ≠ x.oa
  d2 : x.w ≠ x.sa
  d3 : x.w ≠ x.ma
  d4 : x.oa ≠ x.sa
  d5 : x.oa ≠ x.ma
  d6 : x.sa ≠ x.ma
section
variable {B : Hp} {x : Mx} {M : Mw}
theorem MA.up {B' : Hp} (h : MA B x M) (k : ∀ b o, B b = some o → B' b = some o) : MA B' x M :=
  ⟨k _ _ h.wd, k _ _ h.on, k _ _ h.sl, k _ _ h.tp, k _ _ h.mks, fun r v e => k _ _ (h.ss r v e), h.si, h.st, h.d1, h.d2, h.d3, h.d4, h.d5, h.d6⟩
theorem MA.plain (h : MA B x M) : MA (pl B) x M :=
  ⟨pl_to h.wd (fun _ z => by cases z) (fun _ z => by cases z), pl_to h.on (fun _ z => by cases z) (fun _ z => by cases z), pl_to h.sl (fun _ z => by cases z) (fun _ z => by cases z), pl_to h.tp (fun _ z => by cases z) (fun _ z => by cases z), pl_to h.mks (fun _ z => by cases z) (fun _ z => by cases z),
    fun r v e => pl_to (h.ss r v e) (fun _ z => by cases z) (fun _ z => by cases z), h.si, h.st, h.d1, h.d2, h.d3, h.d4, h.d5, h.d6⟩
/-- tops[h] = y -/
theorem MA.setTops (h : MA B x M) (ts : List (Option Int)) : MA (upd B x.ta (.lst (ts.map oV))) x { M with tops := ts } := by
  have nt : ∀ {b kvs}, B b = some (.dK kvs) → upd B x.ta (.lst (ts.map oV)) b = some (.dK kvs) := fun e => by rw [upd_ne (ne_of e h.tp (by intro z; cases z))]; exact e
  exact ⟨nt h.wd, nt h.on, nt h.sl, upd_same, nt h.mks, fun r v e => by rw [upd_ne (h.st r v e)]; exact h.ss r v e, h.si, h.st, h.d1, h.d2, h.d3, h.d4, h.d5, h.d6⟩
theorem MA.setOn (h : MA B x M) (on : List (Int × Option Int)) : MA (upd B x.oa (.dK (mkV on))) x { M with on := on } := by
  have nt : ∀ {b ys}, B b = some (.lst ys) → upd B x.oa (.dK (mkV on)) b = some (.lst ys) := fun e => by rw [upd_ne (ne_of e h.on (by intro z; cases z))]; exact e
  exact ⟨by rw [upd_ne h.d1]; exact h.wd, upd_same, by rw [upd_ne h.d4.symm]; exact h.sl, nt h.tp, by rw [upd_ne h.d5.symm]; exact h.mks, fun r v e => nt (h.ss r v e), h.si, h.st, h.d1, h.d2, h.d3, h.d4, h.d5, h.d6⟩
theorem MA.setMarks (h : MA B x M) (ms : List (Int × Option Int)) : MA (upd B x.ma (.dK (mkV ms))) x { M with marks := ms } := by
  have nt : ∀ {b ys}, B b = some (.lst ys) → upd B x.ma (.dK (mkV ms)) b = some (.lst ys) := fun e => by rw [upd_ne (ne_of e h.mks (by intro z; cases z))]; exact e
  exact ⟨by rw [upd_ne h.d3]; exact h.wd, by rw [upd_ne h.d5]; exact h.on, by rw [upd_ne h.d6]; exact h.sl, nt h.tp, upd_same, fun r v e => nt (h.ss r v e), h.si, h.st, h.d1, h.d2, h.d3, h.d4, h.d5, h.d6⟩
theorem MA.setNums (h : MA B x M) (many made : Int) : MA (upd B x.w (.dK (mD x M.rooms many made))) x { M with many := many, made := made } := by
  have nt : ∀ {b ys}, B b = some (.lst ys) → upd B x.w (.dK (mD x M.rooms many made)) b = some (.lst ys) := fun e => by rw [upd_ne (ne_of e h.wd (by intro z; cases z))]; exact e
  exact ⟨upd_same, by rw [upd_ne h.d1.symm]; exact h.on, by rw [upd_ne h.d2.symm]; exact h.sl, nt h.tp, by rw [upd_ne h.d3.symm]; exact h.mks, fun r v e => nt (h.ss r v e), h.si, h.st, h.d1, h.d2, h.d3, h.d4, h.d5, h.d6⟩
/-- slots[r] is dropped -/
theorem MA.dropSl (h : MA B x M) (r : Int) : MA (upd B x.sa (.dK (slV x.so (dr M.sl r)))) x { M with sl := dr M.sl r } := by
  have nt : ∀ {b ys}, B b = some (.lst ys) → upd B x.sa (.dK (slV x.so (dr M.sl r))) b = some (.lst ys) := fun e => by rw [upd_ne (ne_of e h.sl (by intro z; cases z))]; exact e
  have lkd : ∀ k v, lk (dr M.sl r) k = some v → lk M.sl k = some v := fun k v e => by
    rw [lk_dr] at e
    split at e
    · cases e
    · exact e
  exact ⟨by rw [upd_ne h.d2]; exact h.wd, by rw [upd_ne h.d4]; exact h.on, upd_same, nt h.tp, by rw [upd_ne h.d6.symm]; exact h.mks, fun k v e => nt (h.ss k v (lkd k v e)), fun a b u v e1 e2 => h.si a b u v (lkd a u e1) (lkd b v e2), fun k v e => h.st k v (lkd k v e), h.d1, h.d2, h.d3, h.d4, h.d5, h.d6⟩
end
end Sk
end
section
/-! SwD1: the law's own wood walked: made, piles, needs, free rooms, prices. -/
namespace Sk
open PySem PySem.Spec PyProof.Rows L2 SW
theorem key_ne {a b : Str} (h : decide (a = b) = false) : ¬ (Sum.inr a : Key) = Sum.inr b := fun z => by cases z; simp at h
section
variable {x : Mx} {r m n : Int}
theorem mD_rooms : valV (mD x r m n) (Sum.inr "rooms") = some (.int r) := valV_pos rfl
theorem mD_on : valV (mD x r m n) (Sum.inr "on") = some (.ref x.oa) := by
  unfold mD; rw [valV_neg (key_ne (by decide +kernel))]; exact valV_pos rfl
theorem mD_slots : valV (mD x r m n) (Sum.inr "slots") = some (.ref x.sa) := by
  unfold mD; rw [valV_neg (key_ne (by decide +kernel)), valV_neg (key_ne (by decide +kernel))]; exact valV_pos rfl
theorem mD_tops : valV (mD x r m n) (Sum.inr "tops") = some (.ref x.ta) := by
  unfold mD; rw [valV_neg (key_ne (by decide +kernel)), valV_neg (key_ne (by decide +kernel)), valV_neg (key_ne (by decide +kernel))]; exact valV_pos rfl
theorem mD_marks : valV (mD x r m n) (Sum.inr "marks") = some (.ref x.ma) := by
  unfold mD; rw [valV_neg (key_ne (by decide +kernel)), valV_neg (key_ne (by decide +kernel)), valV_neg (key_ne (by decide +kernel)), valV_neg (key_ne (by decide +kernel))]; exact valV_pos rfl
theorem mD_many : valV (mD x r m n) (Sum.inr "many") = some (.int m) := by
  unfold mD; rw [valV_neg (key_ne (by decide +kernel)), valV_neg (key_ne (by decide +kernel)), valV_neg (key_ne (by decide +kernel)), valV_neg (key_ne (by decide +kernel)), valV_neg (key_ne (by decide +kernel))]; exact valV_pos rfl
theorem mD_made : valV (mD x r m n) (Sum.inr "made") = some (.int n) := by
  unfold mD; rw [valV_neg (key_ne (by decide +kernel)), valV_neg (key_ne (by decide +kernel)), valV_neg (key_ne (by decide +kernel)), valV_neg (key_ne (by decide +kernel)), valV_neg (key_ne (by decide +kernel)), valV_neg (key_ne (by decide +kernel))]; exact valV_pos rfl
variable {H : Hp} {M : Mw}
theorem g_rooms (h : H x.w = some (.dK (mD x r m n))) : DGet H x.w (V.str "rooms") (some (.int r)) := by
  have := DGet.k (k := Sum.inr "rooms") h; rw [mD_rooms] at this; exact this
theorem g_on (h : H x.w = some (.dK (mD x r m n))) : DGet H x.w (V.str "on") (some (.ref x.oa)) := by
  have := DGet.k (k := Sum.inr "on") h; rw [mD_on] at this; exact this
theorem g_slots (h : H x.w = some (.dK (mD x r m n))) : DGet H x.w (V.str "slots") (some (.ref x.sa)) := by
  have := DGet.k (k := Sum.inr "slots") h; rw [mD_slots] at this; exact this
theorem g_tops (h : H x.w = some (.dK (mD x r m n))) : DGet H x.w (V.str "tops") (some (.ref x.ta)) := by
  have := DGet.k (k := Sum.inr "tops") h; rw [mD_tops] at this; exact this
theorem g_marks (h : H x.w = some (.dK (mD x r m n))) : DGet H x.w (V.str "marks") (some (.ref x.ma)) := by
  have := DGet.k (k := Sum.inr "marks") h; rw [mD_marks] at this; exact this
theorem g_many (h : H x.w = some (.dK (mD x r m n))) : DGet H x.w (V.str "many") (some (.int m)) := by
  have := DGet.k (k := Sum.inr "many") h; rw [mD_many] at this; exact this
theorem g_made (h : H x.w = some (.dK (mD x r m n))) : DGet H x.w (V.str "made") (some (.int n)) := by
  have := DGet.k (k := Sum.inr "made") h; rw [mD_made] at this; exact this
end
def spMPile : Sp := fun vs H Q _ => ∃ (B : Hp) (x : Mx) (M : Mw) (r : Option Int) (l : List Int), vs = [.ref x.w, oV r] ∧ Sub B H ∧ MA B x M ∧ MPath M.on r l ∧ l.length ≤ 1000 ∧ ∀ p, H p = none → Q (.ref p) (upd H p (.lst (l.map V.int)))
section
variable {P : Program} {w : World} {K : PySem.W.Frag} {mg : Str → Option Value} {base : Heap}
theorem ok_l_pile (T : Txt K mg) : FnOk P w K mg base CX0 1 (aG K "_law_pile") (fdOf K (aG K "_law_pile")) ["_law_w", "_law_room"] spMPile := by
  refine T.F_l_pile.ok sc_l_pile (fun vs H Q E h => ?_) (fun cdv A outer s H vs Q E hr h => ?_)
  · obtain ⟨_, _, _, _, _, rfl, _⟩ := h; rfl
  · obtain ⟨B, x, M, r, l, rfl, s0, R, hpath, hl, k⟩ := h
    refine ⟨_, PSs.nox (pss_cons (ps_set (i := 2) sc_l_pile.nd rfl (Or.inl rfl) (pe_lst pa_nil)) (pss_cons (ps_while PassesOwn.never (pt_cmpR op_notN1 (pv 1) pe_non (nomark _)) (pss_cons (ps_expr (pe_bm PySem.F.plainAttrs_list PySem.F.slot_list_append PySem.F.type_list_append mt_append (pv 2) (pa_cons (pv 1) pa_nil))) (pss_one (ps_set (i := 1) sc_l_pile.nd rfl (Or.inl rfl) (pe_dget (hu_of hr) (pe_dget (hu_of hr) (pv 0) pe_str (fun _ _ => rfl)) (pv 1) (fun _ _ => rfl)))))) (pss_one (ps_ret (pv 2))))), ?_⟩
    refine ⟨Nat.zero_le _, fun p np => ?_⟩
    have npB : ∀ {b : Addr} {o : HO}, B b = some o → b ≠ p := fun e => ne_of_none (s0 _ _ e) np
    refine ⟨fun m σ H' => ∃ (pre : List Int) (y : Option Int) (post : List Int), σ = [some (.ref x.w), some (oV y), some (.ref p)] ∧ H' = upd H p (.lst (pre.map V.int)) ∧ MPath M.on y post ∧ l = pre ++ post ∧ m = post.length, ⟨l.length, [], r, l, rfl, rfl, hpath, rfl, rfl⟩, ?_⟩
    rintro m σ H' ⟨pre, y, post, rfl, rfl, hy, el, rfl⟩
    refine ⟨_, rfl, rfl, _, rfl, ?_⟩
    cases hy with
    | nil =>
      refine iteF ⟨_, rfl, ?_⟩
      rw [List.append_nil] at el
      subst el
      exact k p np
    | @cons q b post e hy =>
      refine iteT ⟨fun σ' H' => ∃ (pre' : List Int) (y : Option Int) (post' : List Int), σ' = [some (.ref x.w), some (oV y), some (.ref p)] ∧ H' = upd H p (.lst (pre'.map V.int)) ∧ MPath M.on y post' ∧ l = pre' ++ post' ∧ post'.length = post.length, fun σ' H' ⟨pre', y, post', a1, a2, a3, a4, a5⟩ => ⟨post'.length, by rw [a5]; simp, pre', y, post', a1, a2, a3, a4, rfl⟩, ?_⟩
      refine ⟨_, rfl, .inl ⟨rfl, _, SqL.of upd_same⟩, _, rfl, p, _, _, rfl, rfl, upd_same, szl (by rw [List.length_map]; rw [el] at hl; rw [List.length_append] at hl; omega), ?_⟩
      rw [upd_upd]
      have hw : upd H p (.lst (pre.map V.int ++ [V.int q])) x.w = some _ := (upd_ne (npB R.wd)).trans (s0 _ _ R.wd)
      have ho : upd H p (.lst (pre.map V.int ++ [V.int q])) x.oa = some _ := (upd_ne (npB R.on)).trans (s0 _ _ R.on)
      have gd : DGet (upd H p (.lst (pre.map V.int ++ [V.int q]))) x.oa (V.int q) (some (oV b)) := by
        have := DGet.k (k := Sum.inl q) ho
        rw [valV_mk, e] at this; exact this
      refine ⟨_, rfl, x.w, _, rfl, g_on hw, _, rfl, x.oa, _, rfl, gd, ?_⟩
      exact ⟨pre ++ [q], b, post, rfl, by rw [List.map_append]; rfl, hy, by rw [el]; simp, rfl⟩
end
end Sk
end
section
/-! SwD2: the law's own wood: made, needs, free rooms, prices, swept. -/
namespace Sk
open PySem PySem.Spec PyProof.Rows L2 SW
theorem upd_lock {H : Hp} {m D : Addr} {u z y : HO} (h : H m = some u) (n : D ≠ m) : upd (upd (upd H m z) D y) m u = upd H D y := by
  funext b
  by_cases e : b = m
  · subst e; rw [upd_same, upd_ne n.symm]; exact h.symm
  · rw [upd_ne e]
    by_cases e2 : b = D
    · subst e2; rw [upd_same, upd_same]
    · rw [upd_ne e2, upd_ne e2, upd_ne e]
theorem op_of {r : R2} {ta tb : TE} {σ : L2.St} {H : Hp} {Q : VK} (h : ta σ H fun x H1 => tb σ H1 fun y H2 => r x y H2 Q) : tOp r ta tb σ H Q := h
theorem dget_of {td ty : TE} {σ : L2.St} {H : Hp} {Q : VK} (h : td σ H fun x H1 => ty σ H1 fun y H2 => ∃ a v, x = .ref a ∧ DGet H2 a y (some v) ∧ Q v H2) : tDGet td ty σ H Q := h
theorem mk_get {ms : List (Int × Option Int)} (nd : (ks ms).Nodup) {i : Nat} {q : Int × Option Int} (h : ms[i]? = some q) : valV (mkV ms) (Sum.inl q.1) = some (oV q.2) := by
  rw [valV_mk, mem_lk nd (List.mem_of_getElem? h)]; rfl
/-- [w[KEY][p] for p in w[KEY]] -/
theorem dvals {σ : L2.St} {j : Nat} {H : Hp} {Q : VK} {w m : Addr} {KEY : Str} {wd : List (Key × V)} {ms : List (Int × Option Int)} (h0 : σ[0]? = some (some (.ref w))) (hj : j < σ.length) (j0 : 0 ≠ j) (hw : H w = some (.dK wd)) (hk : valV wd (Sum.inr KEY) = some (.ref m)) (hm : H m = some (.dK (mkV ms))) (wm : w ≠ m) (nd : (ks ms).Nodup) (hl : ms.length ≤ 10000)
    (k : ∀ D, H D = none → Q (.ref D) (upd H D (.lst (ms.map fun q => oV q.2)))) : tLockE (tLc (iKeys (tDGet (tVar 0) (tC (.str KEY)))) (gName j) tYes (tDGet (tDGet (tVar 0) (tC (.str KEY))) (tVar j)) [j]) σ H Q := by
  refine ⟨m, _, hm, by simp [Mut], fun od => ?_⟩
  have hw1 : upd H m (.frz od (.dK (mkV ms))) w = some (.dK wd) := (upd_ne wm).trans hw
  have g1 : DGet (upd H m (.frz od (.dK (mkV ms)))) w (V.str KEY) (some (.ref m)) := by
    have := DGet.k (k := Sum.inr KEY) hw1
    rw [hk] at this; exact this
  refine ⟨_, h0, w, _, rfl, g1, m, od, rfl, .inl ⟨mkV ms, upd_same, fun D nD => ?_⟩⟩
  have nDm : m ≠ D := ne_of_none upd_same nD
  have nD0 : H D = none := by rw [← nD, upd_ne nDm.symm]
  have nDw : w ≠ D := ne_of_none hw nD0
  refine lc_it walk_keys (fun i H' => H' = upd (upd H m (.frz od (.dK (mkV ms)))) D (.lst ((ms.take i).map fun q => oV q.2))) rfl (fun i H' _ e => by rw [e, upd_ne nDm]; exact upd_same) ?_ ?_
  · rintro i x H' H2 hi rfl ⟨rfl, kk, v, hkv, rfl⟩
    rw [mkV_len] at hi
    obtain ⟨q, hq⟩ : ∃ q, ms[i]? = some q := ⟨_, List.getElem?_eq_getElem hi⟩
    have hkk : (kk, v) = (Sum.inl q.1, oV q.2) := by
      unfold mkV at hkv
      rw [List.getElem?_map, hq] at hkv
      exact (Option.some.inj hkv).symm
    obtain ⟨rfl, rfl⟩ := Prod.mk.inj hkk
    have q1 : (σ.set j (some (kV (Sum.inl q.1))))[0]? = some (some (.ref w)) := by rw [List.getElem?_set_ne j0.symm]; exact h0
    have q2 : (σ.set j (some (kV (Sum.inl q.1))))[j]? = some (some (V.int q.1)) := List.getElem?_set_self hj
    refine gName_to ?_
    rw [wipe1]
    refine ⟨?_, yesT rfl ?_⟩
    · simp [wipe]
    have hw2 : upd (upd H m (.frz od (.dK (mkV ms)))) D (.lst ((ms.take i).map fun q => oV q.2)) w = some (.dK wd) := (upd_ne nDw).trans hw1
    have g2 : DGet (upd (upd H m (.frz od (.dK (mkV ms)))) D (.lst ((ms.take i).map fun q => oV q.2))) w (V.str KEY) (some (.ref m)) := by
      have := DGet.k (k := Sum.inr KEY) hw2
      rw [hk] at this; exact this
    have g3 : DGet (upd (upd H m (.frz od (.dK (mkV ms)))) D (.lst ((ms.take i).map fun q => oV q.2))) m (V.int q.1) (some (oV q.2)) :=
      .inl ⟨mkV ms, Sum.inl q.1, .inr ⟨od, (upd_ne nDm).trans upd_same⟩, rfl, (mk_get nd hq).symm⟩
    refine ⟨_, q1, w, _, rfl, g2, _, q2, m, _, rfl, g3, _, upd_same, szl (by rw [List.length_map, List.length_take]; omega), ?_⟩
    rw [upd_upd, take_snocA hq, List.map_append]; rfl
  · rintro H2 rfl
    refine ⟨(upd_ne nDm).trans upd_same, ?_⟩
    rw [mkV_len, List.take_length, upd_lock hm nDm.symm]
    exact k D nD0
def spMNeeds : Sp := fun vs H Q _ => ∃ (B : Hp) (x : Mx) (M : Mw) (r : Int), vs = [.ref x.w, .int r] ∧ Sub B H ∧ MA B x M ∧ (ks M.marks).Nodup ∧ (ks M.on).Nodup ∧ M.tops.length ≤ 100 ∧ M.marks.length ≤ 10000 ∧ M.on.length ≤ 1000 ∧ ∀ H', Same H H' → Q (.int (((refs M.tops M.marks M.on).filter fun y => decide (y = some r)).length : Int)) H'
def spMFree : Sp := fun vs H Q _ => ∃ (B : Hp) (x : Mx) (M : Mw), vs = [.ref x.w] ∧ Sub B H ∧ MA B x M ∧ (1 ≤ M.rooms ∧ M.rooms ≤ 40) ∧ ∀ p, H p = none → Q (.ref p) (upd H p (.lst (((allR M.rooms).filter fun r => !has M.on r).map V.int)))
def priceO (n : Nat) : Option Nat → Int
  | none => 0
  | some i => (n : Int) - (i : Int)
def spMPrice (K : PySem.W.Frag) : Sp := fun vs H Q _ => ∃ (B : Hp) (x : Mx) (W : Wd) (a : Addr) (l : List Int), vs = [.ref x.w, .ref a] ∧ Sub B H ∧ MA B x (mw W) ∧ WFW W ∧ W.marks.length ≤ 10000 ∧ SqL K H a (l.map V.int) ∧ (∀ r ∈ l, ∃ f, lk W.frames r = some f) ∧ l.length ≤ 40 ∧
  ∀ H', Same H H' → Q (.int (priceO l.length (sh W.frames l).head?)) H'
def spMWood : Sp := fun vs H Q _ => ∃ hands rooms : Int, vs = [.int hands, .int rooms] ∧ (1 ≤ hands ∧ hands ≤ 6) ∧ ∀ H' x, Same H H' → MA (grow (fun _ => none) H H') x ⟨rooms, [], [], List.replicate hands.toNat none, [], 0, 0⟩ → Q (.ref x.w) H'
section
variable {P : Program} {w : World} {K : PySem.W.Frag} {mg : Str → Option Value} {base : Heap}
theorem eq_oV (y : Option Int) (r : Int) : eqV (oV y) (.int r) = decide (y = some r) := by
  cases y with
  | none => rfl
  | some q =>
    show (q == r) = decide (some q = some r)
    by_cases z : q = r
    · subst z; simp
    · simp [z]
theorem flat_oV (y : Option Int) : flatV (oV y) = true := by cases y <;> rfl
theorem ok_l_needs (T : Txt K mg) : FnOk P w K mg base CX0 1 (aG K "_law_needs") (fdOf K (aG K "_law_needs")) ["_law_w", "_law_room"] spMNeeds := by
  refine T.F_l_needs.ok sc_l_needs (fun vs H Q E h => ?_) (fun cdv A outer s H vs Q E hr h => ?_)
  · obtain ⟨_, _, _, _, rfl, _⟩ := h; rfl
  · obtain ⟨B, x, M, r, rfl, s0, R, nm, no, l1, l2, l3, k⟩ := h
    refine ⟨_, PSs.nox (pss_cons (ps_set (i := 2) sc_l_needs.nd rfl (Or.inl rfl) (pe_op op_cat (pe_dget (hu_of hr) (pv 0) pe_str (fun _ _ => rfl)) (pe_lock (pe_lc (own := [("_law_place", 3)]) (g := gName 3) rfl sc_l_needs.nd (pi_keys (pe_dget (hu_of hr) (pv 0) pe_str (fun _ _ => rfl))) (blkOk_by (own := [("_law_place", 3)]) (N := ["_law_w", "_law_room", "_law_some", "_law_place", "_law_one"]) (sc := (defScope s_l_needs)) (by decide +kernel)) (fun _ _ _ _ _ => pg_name (i := 3) sc_l_needs.nd rfl (Or.inl rfl)) (fun _ _ _ _ _ => by exact pts_nil) (fun _ _ _ _ _ => by exact (pe_dget (hu_of hr) (pe_dget (hu_of hr) (pv 0) pe_str (fun _ _ => rfl)) (pv 3) (fun _ _ => rfl))))))) (pss_cons (ps_set (i := 2) sc_l_needs.nd rfl (Or.inl rfl) (pe_op op_cat (pv 2) (pe_lock (pe_lc (own := [("_law_one", 4)]) (g := gName 4) rfl sc_l_needs.nd (pi_keys (pe_dget (hu_of hr) (pv 0) pe_str (fun _ _ => rfl))) (blkOk_by (own := [("_law_one", 4)]) (N := ["_law_w", "_law_room", "_law_some", "_law_place", "_law_one"]) (sc := (defScope s_l_needs)) (by decide +kernel)) (fun _ _ _ _ _ => pg_name (i := 4) sc_l_needs.nd rfl (Or.inl rfl)) (fun _ _ _ _ _ => by exact pts_nil) (fun _ _ _ _ _ => by exact (pe_dget (hu_of hr) (pe_dget (hu_of hr) (pv 0) pe_str (fun _ _ => rfl)) (pv 4) (fun _ _ => rfl))))))) (pss_one (ps_ret (pe_callB (call_lenK K rfl) rfl T.n_len PySem.boot_len (pa_cons (pe_lc (own := [("_law_one", 4)]) (g := gName 4) rfl sc_l_needs.nd (pi_listK K rfl (pv 2)) (blkOk_by (own := [("_law_one", 4)]) (N := ["_law_w", "_law_room", "_law_some", "_law_place", "_law_one"]) (sc := (defScope s_l_needs)) (by decide +kernel)) (fun _ _ _ _ _ => pg_name (i := 4) sc_l_needs.nd rfl (Or.inl rfl)) (fun _ _ _ _ _ => by exact (pts_one (pt_cmpR op_eq (pv 4) (pv 1) (nomark _)))) (fun _ _ _ _ _ => by exact (pv 4))) pa_nil)))))), ?_⟩
    with_reducible refine seq_of (asg_of (op_of (dget_of ?_)))
    refine ⟨_, rfl, x.w, _, rfl, g_tops (s0 _ _ R.wd), ?_⟩
    refine dvals (m := x.ma) (ms := M.marks) rfl (by show 3 < 5; decide) (by decide) (s0 _ _ R.wd) mD_marks (s0 _ _ R.mks) R.d3 nm l2 (fun D nD => ?_)
    have e1 := same_new nD (.lst (M.marks.map fun q => oV q.2))
    refine ⟨x.ta, D, _, _, rfl, rfl, e1 _ _ (s0 _ _ R.tp), upd_same, sz (by rw [List.length_map, List.length_map]; omega), fun D2 nD2 => ?_⟩
    have e2 := e1.trans (same_new nD2 (.lst (M.tops.map oV ++ M.marks.map fun q => oV q.2)))
    refine gName_to ?_
    with_reducible refine seq_of (asg_of (op_of ?_))
    refine ⟨_, rfl, ?_⟩
    refine dvals (m := x.oa) (ms := M.on) rfl (by show 4 < 5; decide) (by decide) (e2 _ _ (s0 _ _ R.wd)) mD_on (e2 _ _ (s0 _ _ R.on)) R.d1 no (by omega) (fun D3 nD3 => ?_)
    have e3 := e2.trans (same_new nD3 (.lst (M.on.map fun q => oV q.2)))
    have n23 : D2 ≠ D3 := ne_of_none upd_same nD3
    refine ⟨D2, D3, _, _, rfl, rfl, (upd_ne n23).trans upd_same, upd_same, sz (by rw [List.length_append, List.length_map, List.length_map, List.length_map]; omega), fun D4 nD4 => ?_⟩
    have el : (M.tops.map oV ++ M.marks.map fun q => oV q.2) ++ (M.on.map fun q => oV q.2) = (refs M.tops M.marks M.on).map oV := by
      unfold refs mv
      rw [List.map_append, List.map_append, List.map_map, List.map_map]; rfl
    rw [el]
    have e4 := e3.trans (same_new nD4 (.lst ((refs M.tops M.marks M.on).map oV)))
    have h4 : upd (upd (upd (upd H D (.lst (M.marks.map fun q => oV q.2))) D2 (.lst (M.tops.map oV ++ M.marks.map fun q => oV q.2))) D3 (.lst (M.on.map fun q => oV q.2))) D4 (.lst ((refs M.tops M.marks M.on).map oV)) D4 = some _ := upd_same
    have lr : (refs M.tops M.marks M.on).length ≤ 20000 := by
      unfold refs mv
      rw [List.length_append, List.length_append, List.length_map, List.length_map]; omega
    generalize upd (upd (upd (upd H D (.lst (M.marks.map fun q => oV q.2))) D2 (.lst (M.tops.map oV ++ M.marks.map fun q => oV q.2))) D3 (.lst (M.on.map fun q => oV q.2))) D4 (.lst ((refs M.tops M.marks M.on).map oV)) = H4 at e4 h4
    generalize refs M.tops M.marks M.on = rs at h4 k lr
    refine ⟨_, rfl, D4, rfl, ⟨_, SqL.of h4⟩, fun D5 nD5 => ?_⟩
    refine lc_list (K := K) (a := D4) (xs := rs.map oV) (fun i H' => H' D5 = some (.lst (((rs.take i).filter fun y => decide (y = some r)).map oV)) ∧ Same H4 H') ⟨upd_same, same_new nD5 _⟩ (fun i H' _ ⟨_, e⟩ => SqL.of (e _ _ h4)) ?_ ?_
    · rintro i v H' hi ⟨h1, h3⟩
      obtain ⟨y, er, rfl⟩ : ∃ y, rs[i]? = some y ∧ v = oV y := by
        rw [List.getElem?_map] at hi
        cases e : rs[i]? with
        | none => rw [e] at hi; cases hi
        | some r => rw [e] at hi; exact ⟨r, rfl, (Option.some.inj hi).symm⟩
      have hil : i < rs.length := by
        rcases Nat.lt_or_ge i rs.length with z | z
        · exact z
        · rw [List.getElem?_eq_none z] at er; cases er
      refine ⟨rfl, ?_⟩
      have e4 : (rs.take (i + 1)).filter (fun y => decide (y = some r)) = (rs.take i).filter (fun y => decide (y = some r)) ++ if y = some r then [y] else [] := by
        rw [take_snocA er, List.filter_append]
        by_cases z : y = some r <;> simp [z]
      have l5 := List.length_filter_le (fun y => decide (y = some r)) (rs.take i)
      rw [List.length_take] at l5
      refine ⟨_, rfl, _, rfl, by cases y <;> rfl, _, rfl, ?_⟩
      by_cases z : y = some r
      · refine ifT (by rw [z]; exact decide_eq_true rfl) ?_
        refine ⟨_, rfl, _, h1, szl (by rw [List.length_map]; omega), by rw [upd_same, e4, if_pos z, List.map_append]; rfl, fun b o e => by rw [upd_ne (ne_of_none e nD5)]; exact h3 _ _ e⟩
      · refine ifF (decide_eq_false fun q => z (oV_inj (b := some r) q)) ?_
        exact ⟨by rw [e4, if_neg z, List.append_nil]; exact h1, h3⟩
    · rintro H' ⟨h1, h3⟩
      rw [List.length_map, List.take_length] at h1
      refine ⟨D5, _, rfl, .inl (SqL.of h1), ?_⟩
      rw [List.length_map]
      exact k H' (e4.trans h3)
theorem ok_l_free (T : Txt K mg) : FnOk P w K mg base CX0 1 (aG K "_law_free") (fdOf K (aG K "_law_free")) ["_law_w"] spMFree := by
  refine T.F_l_free.ok sc_l_free (fun vs H Q E h => ?_) (fun cdv A outer s H vs Q E hr h => ?_)
  · obtain ⟨_, _, _, rfl, _⟩ := h; rfl
  · obtain ⟨B, x, M, rfl, s0, R, hrm, k⟩ := h
    refine ⟨_, PSs.nox (pss_one (ps_ret (pe_lc (own := [("_law_room", 1)]) (g := gName 1) rfl sc_l_free.nd (pi_range2 rfl T.n_range (pa_cons pe_int (pa_cons (pe_op op_add (pe_dget (hu_of hr) (pv 0) pe_str (fun _ _ => rfl)) pe_int) pa_nil))) (blkOk_by (own := [("_law_room", 1)]) (N := ["_law_w", "_law_room"]) (sc := (defScope s_l_free)) (by decide +kernel)) (fun _ _ _ _ _ => pg_name (i := 1) sc_l_free.nd rfl (Or.inl rfl)) (fun _ _ _ _ _ => by exact (pts_one (pt_cmp (pc_dnotin (hu_of hr) (pv 1) (pe_dget (hu_of hr) (pv 0) pe_str (fun _ _ => rfl)))))) (fun _ _ _ _ _ => by exact (pv 1))))), ?_⟩
    have hw := s0 _ _ R.wd
    refine ⟨_, rfl, x.w, _, rfl, g_rooms hw, _, _, rfl, rfl, 1, M.rooms + 1, rfl, ⟨by decide, by decide, by omega, by omega⟩, fun D nD => ?_⟩
    have ln : (M.rooms + 1 - 1).toNat = M.rooms.toNat := by congr 1; omega
    rw [ln]
    refine lc_range (lo := 1) (n := M.rooms.toNat) (fun i H' => H' = upd H D (.lst ((((List.range i).map fun (i : Nat) => (1 : Int) + (i : Int)).filter fun r => !has M.on r).map V.int))) rfl ?_ ?_
    · rintro i H' hi rfl
      have e3 := same_new nD (.lst ((((List.range i).map fun (i : Nat) => (1 : Int) + (i : Int)).filter fun r => !has M.on r).map V.int))
      refine ⟨rfl, _, rfl, _, rfl, x.w, _, rfl, g_on (e3 _ _ hw), x.oa, _, rfl, DGet.k (k := Sum.inl (1 + (i : Int))) (e3 _ _ (s0 _ _ R.on)), _, rfl, ?_⟩
      rw [valV_mk, List.range_succ, List.map_append, List.filter_append, List.map_append]
      have len : ((((List.range i).map fun (i : Nat) => (1 : Int) + (i : Int)).filter fun r => !has M.on r).map V.int).length ≤ 1000 := by
        rw [List.length_map]
        refine Nat.le_trans (List.length_filter_le _ _) ?_
        rw [List.length_map, List.length_range]; omega
      cases e : lk M.on (1 + (i : Int)) with
      | none =>
        refine iteT ⟨_, rfl, _, upd_same, szl (by omega), ?_⟩
        have ef : ((([i] : List Nat).map fun (i : Nat) => (1 : Int) + (i : Int)).filter fun r => !has M.on r) = [1 + (i : Int)] := by
          rw [List.map_cons, List.map_nil, List.filter_cons_of_pos (by simp [has, e])]; rfl
        rw [upd_upd, ef]; rfl
      | some f =>
        refine iteF ?_
        have ef : ((([i] : List Nat).map fun (i : Nat) => (1 : Int) + (i : Int)).filter fun r => !has M.on r) = [] := by
          rw [List.map_cons, List.map_nil, List.filter_cons_of_neg (by simp [has, e])]; rfl
        rw [ef, List.map_nil, List.append_nil]
    · rintro H' rfl
      exact k D nD
theorem mwN {W : Wd} (F : WFW W) (hm : W.marks.length ≤ 10000) : (ks (mw W).marks).Nodup ∧ (ks (mw W).on).Nodup ∧ (mw W).tops.length ≤ 100 ∧ (mw W).marks.length ≤ 10000 ∧ (mw W).on.length ≤ 1000 := by
  refine ⟨F.ndm, ?_, ?_, hm, ?_⟩
  · show (ks (onL W.frames)).Nodup
    rw [ks_onL]; exact F.wf.nd
  · have := F.h6
    show W.tops.length ≤ 100
    omega
  · have := F.len
    show (onL W.frames).length ≤ 1000
    unfold onL; rw [List.length_map]; omega
theorem needs_mw {W : Wd} (F : WFW W) {r : Int} {f : Fr} (h : lk W.frames r = some f) : (((refs (mw W).tops (mw W).marks (mw W).on).filter fun y => decide (y = some r)).length : Int) = f.needs := needs_refs F h
theorem ok_l_price (T : Txt K mg) : FnOk P w K mg base CX0 2 (aG K "_law_price") (fdOf K (aG K "_law_price")) ["_law_w", "_law_path"] (spMPrice K) := by
  refine T.F_l_price.ok sc_l_price (fun vs H Q E h => ?_) (fun cdv A outer s H vs Q E hr h => ?_)
  · obtain ⟨_, _, _, _, _, rfl, _⟩ := h; rfl
  · obtain ⟨B, x, W, a, l, rfl, s0, R, F, hm, hq, hin, hl, k⟩ := h
    refine ⟨_, PSs.nox (pss_cons (ps_setLc (i := 2) (own := [("_law_at", 3)]) (g := gName 3) rfl sc_l_price.nd rfl rfl (sw_true rfl rfl rfl (by decide +kernel)) (pi_range1 rfl T.n_range (pa_cons (pe_callB (call_lenK K rfl) rfl T.n_len PySem.boot_len (pa_cons (pv 1) pa_nil)) pa_nil)) (blkOk_by (own := [("_law_at", 3)]) (N := ["_law_w", "_law_path", "_law_some", "_law_at"]) (sc := (defScope s_l_price)) (by decide +kernel)) (fun _ _ _ _ _ => pg_name (i := 3) sc_l_price.nd rfl (Or.inl rfl)) (fun _ _ _ _ _ => by exact (pts_one (pt_cmpR op_gt (pe_call (ok_l_needs T) (hr.mono (by decide)) rfl T.g__law_needs T.F_l_needs.kp T.b_l_needs .nil pass0 (pa_cons (pv 0) (pa_cons (pe_ix (ix_listK K rfl) (pv 1) (pv 3) (fun _ _ => rfl)) pa_nil))) pe_int (nomark _)))) (fun _ _ _ _ _ => by exact (pv 3))) (pss_one (ps_ret (pe_ifExp (pt_cmpR (op_neDK K rfl hr.units) (pv 2) (pe_lst pa_nil) (nomark _)) (pe_op op_sub (pe_callB (call_lenK K rfl) rfl T.n_len PySem.boot_len (pa_cons (pv 1) pa_nil)) (pe_ix (ix_listK K rfl) (pv 2) pe_int (fun _ _ => rfl))) pe_int)))), ?_⟩
    obtain ⟨m1, m2, m3, m4, m5⟩ := mwN F hm
    refine ⟨_, rfl, a, _, rfl, .inl hq, (l.length : Int), by rw [List.length_map], by omega, by omega, fun D nD => ?_⟩
    refine lc_range (lo := 0) (n := ((l.length : Nat) : Int).toNat) (fun i H' => H' D = some (.lst (((List.range i).filter fun j => decide (1 < SW.nd W.frames (l.getD j 0))).map fun (j : Nat) => V.int (j : Int))) ∧ Same H H') ⟨upd_same, same_new nD _⟩ ?_ ?_
    · rintro i H' hi ⟨h1, h3⟩
      have hi2 : i < l.length := by omega
      obtain ⟨f, e⟩ := hin (l.getD i 0) (by
        rw [List.getD_eq_getElem?_getD, List.getElem?_eq_getElem hi2]; exact List.getElem_mem hi2)
      have hix : atI (l.map V.int) (0 + (i : Int)) = some (V.int (l.getD i 0)) := by
        rw [Int.zero_add]; exact atI_int hi2
      have len : (((List.range i).filter fun j => decide (1 < SW.nd W.frames (l.getD j 0))).map fun (j : Nat) => V.int (j : Int)).length ≤ 1000 := by
        rw [List.length_map]
        refine Nat.le_trans (List.length_filter_le _ _) ?_
        rw [List.length_range]; omega
      refine ⟨rfl, _, rfl, _, rfl, _, rfl, a, _, _, _, rfl, rfl, h3.seq hq, hix, B, x, mw W, _, rfl, fun b o e => h3 _ _ (s0 _ _ e), R, m1, m2, m3, m4, m5, fun H2 e2 => ?_⟩
      rw [needs_mw F e]
      refine ⟨_, _, rfl, rfl, _, rfl, ?_⟩
      rw [List.range_succ, List.filter_append, List.map_append]
      have en : SW.nd W.frames (l.getD i 0) = f.needs := nd_of e
      have h1' := e2 _ _ h1
      by_cases g : 1 < f.needs
      · rw [decide_eq_true g]
        refine iteT ⟨_, rfl, _, h1', szl (by omega), ?_, fun b o eb => ?_⟩
        · have ef : ([i].filter fun j => decide (1 < SW.nd W.frames (l.getD j 0))) = [i] := by
            rw [List.filter_cons_of_pos (by rw [en]; exact decide_eq_true g)]; rfl
          rw [upd_same, Int.zero_add, ef]; rfl
        · rw [upd_ne (ne_of_none eb nD)]; exact e2 _ _ (h3 _ _ eb)
      · rw [decide_eq_false g]
        refine iteF ?_
        have ef : ([i].filter fun j => decide (1 < SW.nd W.frames (l.getD j 0))) = [] := by
          rw [List.filter_cons_of_neg (by rw [en]; simpa using g)]; rfl
        rw [ef, List.map_nil, List.append_nil]
        exact ⟨h1', h3.trans e2⟩
    · rintro H' ⟨h1, h3⟩
      have en : ((l.length : Nat) : Int).toNat = l.length := by omega
      rw [en] at h1
      have esh : ((List.range l.length).filter fun j => decide (1 < SW.nd W.frames (l.getD j 0))) = sh W.frames l := rfl
      rw [esh] at h1
      have hD : ((sh W.frames l).map fun (j : Nat) => V.int (j : Int)) = (((sh W.frames l).map fun (j : Nat) => (j : Int))).map V.int := by rw [List.map_map]; rfl
      rw [hD] at h1
      refine ⟨_, rfl, by show 0 ≤ sizeLine; exact sz (by omega), fun z nz => ?_⟩
      have e5 := h3.trans (same_new nz (.lst []))
      have h5 : upd H' z (.lst []) D = _ := (upd_ne (ne_of_none h1 nz)).trans h1
      refine ⟨_, .list [], dp_ints h5, .lst (SqL.of upd_same) .nil, shaped_ints _, rfl, _, rfl, ?_⟩
      cases eo : sh W.frames l with
      | nil =>
        rw [eo] at k
        exact iteF (k _ e5)
      | cons j r =>
        rw [eo] at k h5
        refine iteT ⟨_, rfl, a, _, rfl, .inl (e5.seq hq), _, rfl, D, _, _, _, rfl, rfl, SqL.of h5, atI_nat (j := 0) rfl, _, _, rfl, rfl, ?_⟩
        rw [List.length_map]
        exact k _ e5
end
end Sk
end
section
/-! SwD3: the law's own wood: made, swept. -/
namespace Sk
open PySem PySem.Spec PyProof.Rows L2 SW
/-! ### plain -/
/-- all rooms of some piles -/
def reach (fs : Fs) (rs : List (Option Int)) : List Int := (rs.map (path fs)).flatten
theorem ks_filter {α : Type} (l : List (Int × α)) (p : Int → Bool) : ks (l.filter fun q => p q.1) = (ks l).filter p := by
  unfold ks
  rw [List.filter_map]; rfl
theorem swept_plain {β : Type} (p : Fr → β) {W W' : Wd} (F' : WFW W') (s : SW.Sub W'.frames W.frames) (hmap : W'.frames.map (fun q => (q.1, p q.2)) = (W.frames.map fun q => (q.1, p q.2)).filter fun q => has W'.frames q.1) :
    W'.frames.map (fun q => (q.1, p q.2)) = (W.frames.map fun q => (q.1, p q.2)).filter fun q => decide (q.1 ∈ reach W.frames (roots W')) := by
  rw [hmap]
  refine List.filter_congr fun q _ => ?_
  have h := kept_rooms F' s q.1
  have e : (q.1 ∈ reach W.frames (roots W')) ↔ has W'.frames q.1 = true := by
    rw [h]
    unfold reach
    rw [List.mem_flatten]
    constructor
    · rintro ⟨l, hl, hq⟩
      obtain ⟨y, hy, rfl⟩ := List.mem_map.mp hl
      exact ⟨y, hy, hq⟩
    · rintro ⟨y, hy, hq⟩
      exact ⟨_, List.mem_map.mpr ⟨y, hy, rfl⟩, hq⟩
  cases hh : has W'.frames q.1 with
  | true => exact (decide_eq_true (e.mpr hh)).symm
  | false => exact (decide_eq_false fun z => by rw [e.mp z] at hh; cases hh).symm
/-- what stands while the rooms from j on are still to be looked at -/
def still (R ks : List Int) (j : Nat) (r : Int) : Bool := decide (r ∈ R) || decide (r ∈ ks.drop j)
theorem still_0 {α : Type} (R : List Int) (l : List (Int × α)) : l.filter (fun q => still R (ks l) 0 q.1) = l := by
  rw [List.filter_eq_self]
  intro q hq
  have : q.1 ∈ ks l := List.mem_map.mpr ⟨q, hq, rfl⟩
  simp [still, this]
theorem still_end {α : Type} (R : List Int) (k : List Int) (l : List (Int × α)) : l.filter (fun q => still R k k.length q.1) = l.filter fun q => decide (q.1 ∈ R) := by
  refine List.filter_congr fun q _ => ?_
  simp [still]
theorem still_in {R k : List Int} {j : Nat} {r : Int} (h : k[j]? = some r) (hr : r ∈ R) (s : Int) : still R k (j + 1) s = still R k j s := by
  have hj : j < k.length := by
    rcases Nat.lt_or_ge j k.length with z | z
    · exact z
    · rw [List.getElem?_eq_none z] at h; cases h
  have e : k.drop j = r :: k.drop (j + 1) := by
    rw [List.drop_eq_getElem_cons hj]
    rw [List.getElem?_eq_getElem hj] at h
    rw [Option.some.inj h]
  unfold still
  rw [e]
  by_cases z : s = r
  · subst z; simp [hr]
  · simp [z]
theorem still_out {α : Type} {R k : List Int} {j : Nat} {r : Int} (nd : k.Nodup) (h : k[j]? = some r) (hr : r ∉ R) (l : List (Int × α)) : dr (l.filter fun q => still R k j q.1) r = l.filter fun q => still R k (j + 1) q.1 := by
  have hj : j < k.length := by
    rcases Nat.lt_or_ge j k.length with z | z
    · exact z
    · rw [List.getElem?_eq_none z] at h; cases h
  have e : k.drop j = r :: k.drop (j + 1) := by
    rw [List.drop_eq_getElem_cons hj]
    rw [List.getElem?_eq_getElem hj] at h
    rw [Option.some.inj h]
  have nd2 : (k.drop j).Nodup := nd.sublist (List.drop_sublist _ _)
  rw [e] at nd2
  have nr := (List.nodup_cons.mp nd2).1
  unfold dr
  rw [List.filter_filter]
  refine List.filter_congr fun q _ => ?_
  unfold still
  rw [e]
  by_cases z : q.1 = r
  · rw [z]; simp [hr, nr]
  · simp [z]
theorem dropK_sl (so : Int → Addr) (sl : List (Int × List Int)) (r : Int) : dropK (slV so sl) (Sum.inl r) = slV so (dr sl r) := by
  unfold dropK slV dr
  rw [List.filter_map]
  congr 1
  apply List.filter_congr
  intro q _
  simp
theorem valV_sl (so : Int → Addr) (sl : List (Int × List Int)) (r : Int) : valV (slV so sl) (Sum.inl r) = (lk sl r).map fun _ => V.ref (so r) := by
  induction sl with
  | nil => rfl
  | cons p l ih =>
    obtain ⟨j, a⟩ := p
    by_cases e : j = r
    · subst e
      simp [slV, lk, valV]
    · have z : valV (slV so ((j, a) :: l)) (Sum.inl r) = valV (slV so l) (Sum.inl r) := valV_neg (p := (Sum.inl j, V.ref (so j))) (by simpa using e)
      rw [z, ih]; simp [lk, e]
def spMSwept : Sp := fun vs H Q _ => ∃ (B : Hp) (x : Mx) (M : Mw) (fs : Fs), vs = [.ref x.w] ∧ Sub B H ∧ MA B x M ∧ ks M.on = ks M.sl ∧ (ks M.on).Nodup ∧ (ks M.marks).Nodup ∧ (∀ t ∈ M.tops ++ mv M.marks, MPath M.on t (path fs t) ∧ (path fs t).length ≤ 40) ∧ M.tops.length ≤ 6 ∧ M.marks.length ≤ 1000 ∧ M.on.length ≤ 40 ∧
  ∀ B' H', MA B' x { M with on := M.on.filter (fun q => decide (q.1 ∈ reach fs (M.tops ++ mv M.marks))), sl := M.sl.filter (fun q => decide (q.1 ∈ reach fs (M.tops ++ mv M.marks))) } → Stp B H B' H' → Q .non H'
theorem reach_take {fs : Fs} {rs : List (Option Int)} {i : Nat} {t : Option Int} (h : rs[i]? = some t) : reach fs (rs.take (i + 1)) = reach fs (rs.take i) ++ path fs t := by
  unfold reach
  rw [take_snocC h, List.map_append, List.flatten_append]
  simp
theorem reach_len {fs : Fs} : ∀ {rs : List (Option Int)}, (∀ t ∈ rs, (path fs t).length ≤ 40) → (reach fs rs).length ≤ 40 * rs.length
  | [], _ => by simp [reach]
  | t :: rs, h => by
    have h1 := h t (List.mem_cons_self ..)
    have h2 := reach_len (rs := rs) fun t ht => h t (List.mem_cons_of_mem _ ht)
    unfold reach at h2 ⊢
    rw [List.map_cons, List.flatten_cons, List.length_append, List.length_cons]; omega
section
variable {P : Program} {w : World} {K : PySem.W.Frag} {mg : Str → Option Value} {base : Heap}
theorem ok_l_wood (T : Txt K mg) : FnOk P w K mg base CX0 1 (aG K "_law_wood") (fdOf K (aG K "_law_wood")) ["_law_hands", "_law_rooms"] spMWood := by
  refine T.F_l_wood.ok sc_l_wood (fun vs H Q E h => ?_) (fun cdv A outer s H vs Q E hr h => ?_)
  · obtain ⟨_, _, rfl, _⟩ := h; rfl
  · obtain ⟨hands, rooms, rfl, ⟨h1, h6⟩, k⟩ := h
    refine ⟨_, PSs.nox (pss_one (ps_ret (pe_disp (pps_cons pe_str (pv 1) (pps_cons pe_str pe_dnewK (pps_cons pe_str pe_dnewK (pps_cons pe_str (pe_op op_rep (pe_lst (pa_cons pe_non pa_nil)) (pv 0)) (pps_cons pe_str pe_dnewK (pps_cons pe_str pe_int (pps_cons pe_str pe_int pps_nil))))))) (by rfl) (by rfl) (fun z => by cases z) (by decide)))), ?_⟩
    intro p np
    refine ⟨_, rfl, ?_⟩
    intro oa noa
    intro sa nsa
    refine ⟨by show 1 ≤ sizeLine; exact sz (by omega), fun l0 nl0 => ?_⟩
    refine ⟨_, rfl, l0, hands, [V.non], rfl, rfl, upd_same, by omega, by omega, sz (by show 1 * hands.toNat ≤ 100000; omega), fun ta nta => ?_⟩
    intro ma nma
    have n1 : p ≠ oa := ne_of_none upd_same noa
    have n2 : p ≠ sa := ne_of_none ((upd_ne n1).trans upd_same) nsa
    have n3 : oa ≠ sa := ne_of_none upd_same nsa
    have n4 : p ≠ l0 := ne_of_none ((upd_ne n2).trans ((upd_ne n1).trans upd_same)) nl0
    have n5 : oa ≠ l0 := ne_of_none ((upd_ne n3).trans upd_same) nl0
    have n6 : sa ≠ l0 := ne_of_none upd_same nl0
    have n7 : p ≠ ta := ne_of_none ((upd_ne n4).trans ((upd_ne n2).trans ((upd_ne n1).trans upd_same))) nta
    have n8 : oa ≠ ta := ne_of_none ((upd_ne n5).trans ((upd_ne n3).trans upd_same)) nta
    have n9 : sa ≠ ta := ne_of_none ((upd_ne n6).trans upd_same) nta
    have n10 : p ≠ ma := ne_of_none ((upd_ne n7).trans ((upd_ne n4).trans ((upd_ne n2).trans ((upd_ne n1).trans upd_same)))) nma
    have n11 : oa ≠ ma := ne_of_none ((upd_ne n8).trans ((upd_ne n5).trans ((upd_ne n3).trans upd_same))) nma
    have n12 : sa ≠ ma := ne_of_none ((upd_ne n9).trans ((upd_ne n6).trans upd_same)) nma
    have n13 : ta ≠ ma := ne_of_none upd_same nma
    have z1 : H oa = none := by rw [← noa, upd_ne n1.symm]
    have z2 : H sa = none := by rw [← nsa, upd_ne n3.symm, upd_ne n2.symm]
    have z3 : H l0 = none := by rw [← nl0, upd_ne n6.symm, upd_ne n5.symm, upd_ne n4.symm]
    have z5 : ta ≠ l0 := (ne_of_none upd_same nta).symm
    have z4 : H ta = none := by rw [← nta, upd_ne z5, upd_ne n9.symm, upd_ne n8.symm, upd_ne n7.symm]
    have z7 : ma ≠ l0 := (ne_of_none ((upd_ne z5.symm).trans upd_same) nma).symm
    have z6 : H ma = none := by rw [← nma, upd_ne n13.symm, upd_ne z7, upd_ne n12.symm, upd_ne n11.symm, upd_ne n10.symm]
    refine ⟨by rw [upd_ne n10, upd_ne n7, upd_ne n4, upd_ne n2, upd_ne n1]; exact upd_same, mD ⟨p, oa, sa, ta, ma, fun _ => 0⟩ rooms 0 0, rfl, by show 7 ≤ 15; decide, ?_⟩
    have e1 : mergeK [] (mD ⟨p, oa, sa, ta, ma, fun _ => 0⟩ rooms 0 0) = mD ⟨p, oa, sa, ta, ma, fun _ => 0⟩ rooms 0 0 := by
      rw [merge_nodup _ [] ?_, List.nil_append]
      show ([Sum.inr "rooms", Sum.inr "on", Sum.inr "slots", Sum.inr "tops", Sum.inr "marks", Sum.inr "many", Sum.inr "made"] : List Key).Nodup
      decide +kernel
    rw [e1]
    have er : (List.replicate hands.toNat [V.non]).flatten = (List.replicate hands.toNat (none : Option Int)).map oV := by
      rw [List.map_replicate, List.flatten_replicate_singleton]; rfl
    rw [er]
    refine k _ ⟨p, oa, sa, ta, ma, fun _ => 0⟩ (fun b o e => ?_) ⟨?_, ?_, ?_, ?_, ?_, (fun r v z => by cases z), (fun r s u v z => by cases z), (fun r v z => by cases z), n1, n2, n10, n3, n11, n12⟩
    · rw [upd_ne (ne_of_none e np), upd_ne (ne_of_none e z6), upd_ne (ne_of_none e z4), upd_ne (ne_of_none e z3), upd_ne (ne_of_none e z2), upd_ne (ne_of_none e z1), upd_ne (ne_of_none e np)]; exact e
    · rw [grow_new np]; exact upd_same
    · rw [grow_new z1, upd_ne n1.symm, upd_ne n11, upd_ne n8, upd_ne n5, upd_ne n3]; exact upd_same
    · rw [grow_new z2, upd_ne n2.symm, upd_ne n12, upd_ne n9, upd_ne n6]; exact upd_same
    · rw [grow_new z4, upd_ne n7.symm, upd_ne n13]; exact upd_same
    · rw [grow_new z6, upd_ne n10.symm]; exact upd_same
theorem ok_l_swept (T : Txt K mg) : FnOk P w K mg base CX0 2 (aG K "_law_swept") (fdOf K (aG K "_law_swept")) ["_law_w"] spMSwept := by
  refine T.F_l_swept.ok sc_l_swept (fun vs H Q E h => ?_) (fun cdv A outer s H vs Q E hr h => ?_)
  · obtain ⟨_, _, _, _, rfl, _⟩ := h; rfl
  · obtain ⟨B, x, M, fs, rfl, s0, R, ek, no, nm, hp, l1, l2, l3, k⟩ := h
    refine ⟨_, PSs.nox (pss_cons (ps_set (i := 1) sc_l_swept.nd rfl (Or.inl rfl) (pe_lst pa_nil)) (pss_cons (ps_for PassesOwn.never rfl (pi_listK K rfl (pe_op op_cat (pe_dget (hu_of hr) (pv 0) pe_str (fun _ _ => rfl)) (pe_lock (pe_lc (own := [("_law_place", 3)]) (g := gName 3) rfl sc_l_swept.nd (pi_keys (pe_dget (hu_of hr) (pv 0) pe_str (fun _ _ => rfl))) (blkOk_by (own := [("_law_place", 3)]) (N := ["_law_w", "_law_some", "_law_room", "_law_place"]) (sc := (defScope s_l_swept)) (by decide +kernel)) (fun _ _ _ _ _ => pg_name (i := 3) sc_l_swept.nd rfl (Or.inl rfl)) (fun _ _ _ _ _ => by exact pts_nil) (fun _ _ _ _ _ => by exact (pe_dget (hu_of hr) (pe_dget (hu_of hr) (pv 0) pe_str (fun _ _ => rfl)) (pv 3) (fun _ _ => rfl))))))) (pg_name (i := 2) sc_l_swept.nd rfl (Or.inl rfl)) (pss_one (ps_set (i := 1) sc_l_swept.nd rfl (Or.inl rfl) (pe_op op_cat (pv 1) (pe_call (ok_l_pile T) (hr.mono (by decide)) rfl T.g__law_pile T.F_l_pile.kp T.b_l_pile .nil pass0 (pa_cons (pv 0) (pa_cons (pv 2) pa_nil))))))) (pss_one (ps_for PassesOwn.never rfl (pi_listK K rfl (pe_callTy (call_listD rfl) rfl T.n_list (by decide +kernel) (pa_cons (pe_dget (hu_of hr) (pv 0) pe_str (fun _ _ => rfl)) pa_nil))) (pg_name (i := 2) sc_l_swept.nd rfl (Or.inl rfl)) (pss_one (ps_if (pt_cmpR (op_notIn_seqK K rfl) (pv 2) (pv 1) rfl) (pss_cons (ps_expr (pe_dpop1 (pe_dget (hu_of hr) (pv 0) pe_str (fun _ _ => rfl)) (pv 2) ⟨rfl, rfl, rfl, rfl⟩)) (pss_one (ps_expr (pe_dpop1 (pe_dget (hu_of hr) (pv 0) pe_str (fun _ _ => rfl)) (pv 2) ⟨rfl, rfl, rfl, rfl⟩)))) pss_nil)))))), ?_⟩
    refine ⟨by show 0 ≤ sizeLine; exact sz (by omega), fun s1 ns1 => ?_⟩
    have e1 := same_new ns1 (.lst [])
    refine gName_to ?_
    refine ⟨_, rfl, x.w, _, rfl, g_tops (e1 _ _ (s0 _ _ R.wd)), ?_⟩
    refine dvals (m := x.ma) (ms := M.marks) rfl (by show 3 < 4; decide) (by decide) (e1 _ _ (s0 _ _ R.wd)) mD_marks (e1 _ _ (s0 _ _ R.mks)) R.d3 nm (by omega) (fun D nD => ?_)
    have e2 := e1.trans (same_new nD (.lst (M.marks.map fun q => oV q.2)))
    refine ⟨x.ta, D, _, _, rfl, rfl, e2 _ _ (s0 _ _ R.tp), upd_same, sz (by rw [List.length_map, List.length_map]; omega), fun L nL => ?_⟩
    have el : (M.tops.map oV ++ M.marks.map fun q => oV q.2) = (M.tops ++ mv M.marks).map oV := by
      unfold mv
      rw [List.map_append, List.map_map]; rfl
    rw [el]
    have e3 := e2.trans (same_new nL (.lst ((M.tops ++ mv M.marks).map oV)))
    have hs3 : upd (upd (upd H s1 (.lst [])) D (.lst (M.marks.map fun q => oV q.2))) L (.lst ((M.tops ++ mv M.marks).map oV)) s1 = some (.lst []) := (upd_ne (ne_of_none ((upd_ne (ne_of_none upd_same nD)).trans upd_same) nL)).trans ((upd_ne (ne_of_none upd_same nD)).trans upd_same)
    have hL3 : upd (upd (upd H s1 (.lst [])) D (.lst (M.marks.map fun q => oV q.2))) L (.lst ((M.tops ++ mv M.marks).map oV)) L = some _ := upd_same
    generalize upd (upd (upd H s1 (.lst [])) D (.lst (M.marks.map fun q => oV q.2))) L (.lst ((M.tops ++ mv M.marks).map oV)) = H3 at e3 hs3 hL3
    have lrs : (M.tops ++ mv M.marks).length ≤ 1006 := by unfold mv; rw [List.length_append, List.length_map]; omega
    generalize M.tops ++ mv M.marks = rs at hp k hL3 lrs
    refine ⟨L, rfl, ⟨_, SqL.of hL3⟩, ?_⟩
    refine for_list (K := K) (a := L) (xs := rs.map oV) (fun i σ H' => ∃ (s2 : Addr) (u2 : Option V), σ = [some (.ref x.w), some (.ref s2), u2, none] ∧ H' s2 = some (.lst ((reach fs (rs.take i)).map V.int)) ∧ Same H3 H' ∧ H s2 = none) ⟨s1, none, rfl, hs3, Same.refl _, ns1⟩ (fun i σ H' _ ⟨_, _, _, _, e, _⟩ => SqL.of (e _ _ hL3)) ?_ ?_
    · rintro i v σ H' hi ⟨s2, u2, rfl, h1, h3, _⟩
      obtain ⟨t, er, rfl⟩ : ∃ t, rs[i]? = some t ∧ v = oV t := by
        rw [List.getElem?_map] at hi
        cases e : rs[i]? with
        | none => rw [e] at hi; cases hi
        | some r => rw [e] at hi; exact ⟨r, rfl, (Option.some.inj hi).symm⟩
      have hil : i < rs.length := by
        rcases Nat.lt_or_ge i rs.length with z | z
        · exact z
        · rw [List.getElem?_eq_none z] at er; cases er
      have ht := List.mem_of_getElem? er
      refine ⟨_, rfl, _, rfl, _, rfl, B, x, M, t, path fs t, rfl, fun b o e => h3 _ _ (e3 _ _ (s0 _ _ e)), R, (hp t ht).1, by have := (hp t ht).2; omega, fun q nq => ?_⟩
      have l5 := reach_len (fs := fs) (rs := rs.take i) fun t ht => (hp t (List.mem_of_mem_take ht)).2
      rw [List.length_take] at l5
      have l6 := (hp t ht).2
      refine ⟨s2, q, _, _, rfl, rfl, (upd_ne (ne_of_none h1 nq)).trans h1, upd_same, sz (by rw [List.length_map, List.length_map]; omega), fun s3 ns3 => ?_⟩
      exact ⟨s3, _, rfl, by rw [upd_same, reach_take er, List.map_append], (h3.trans (same_new nq _)).trans (same_new ns3 _), (e3.trans (h3.trans (same_new nq _))).free ns3⟩
    · rintro σ H4 ⟨s2, u2, rfl, h1, h3, hn2⟩
      rw [List.length_map, List.take_length] at h1
      have e4 := e3.trans h3
      generalize reach fs rs = RR at h1 k
      have up : ∀ {b : Addr} {o : HO}, B b = some o → H4 b = some o := fun e => e4 _ _ (s0 _ _ e)
      refine ⟨_, rfl, x.w, _, rfl, g_on (up R.wd), x.oa, _, rfl, .inl (up R.on), fun q nq => ?_⟩
      have ekv : (mkV M.on).map (fun kv => kV kv.1) = (ks M.on).map V.int := by unfold mkV ks; rw [List.map_map, List.map_map]; rfl
      rw [ekv]
      have S5 := ((Stp.refl s0).same e4).same (same_new nq (.lst ((ks M.on).map V.int)))
      have hq5 : upd H4 q (.lst ((ks M.on).map V.int)) q = some _ := upd_same
      have hs5 : upd H4 q (.lst ((ks M.on).map V.int)) s2 = some _ := (upd_ne (ne_of_none h1 nq)).trans h1
      generalize upd H4 q (.lst ((ks M.on).map V.int)) = H5 at S5 hq5 hs5
      have nBq : B q = none := by
        cases z : B q with
        | none => rfl
        | some o => rw [up z] at nq; cases nq
      have nBs : B s2 = none := off_new s0 hn2
      refine ⟨q, rfl, ⟨_, SqL.of hq5⟩, ?_⟩
      refine for_list (K := K) (a := q) (xs := (ks M.on).map V.int) (fun j σ H' => ∃ (u2 : Option V) (B' : Hp), σ = [some (.ref x.w), some (.ref s2), u2, none] ∧ MA B' x { M with on := M.on.filter (fun q => still RR (ks M.on) j q.1), sl := M.sl.filter (fun q => still RR (ks M.on) j q.1) } ∧ Stp B H B' H' ∧ H' q = some (.lst ((ks M.on).map V.int)) ∧ H' s2 = some (.lst (RR.map V.int))) ⟨_, B, rfl, ?_, S5, hq5, hs5⟩ (fun j σ H' _ ⟨_, _, _, _, _, e, _⟩ => SqL.of e) ?_ ?_
      · have z1 := still_0 RR M.on
        have z2 := still_0 RR M.sl
        rw [← ek] at z2
        rw [z1, z2]; exact R
      · rintro j v σ H' hj ⟨u2, B', rfl, R', S', hq', hs'⟩
        obtain ⟨r, er, rfl⟩ : ∃ r, (ks M.on)[j]? = some r ∧ v = V.int r := by
          rw [List.getElem?_map] at hj
          cases e : (ks M.on)[j]? with
          | none => rw [e] at hj; cases hj
          | some r => rw [e] at hj; exact ⟨r, rfl, (Option.some.inj hj).symm⟩
        obtain ⟨z1, z2⟩ := inV_ints r RR
        refine ⟨_, rfl, _, rfl, s2, _, rfl, .inl (SqL.of hs'), rfl, z2, _, rfl, ?_⟩
        by_cases hr : r ∈ RR
        · refine ifF (by simp [z1, hr]) ?_
          have f1 : ∀ {α : Type} (l : List (Int × α)), l.filter (fun q => still RR (ks M.on) (j + 1) q.1) = l.filter fun q => still RR (ks M.on) j q.1 := fun l => List.filter_congr fun q _ => still_in er hr q.1
          exact ⟨_, B', rfl, by rw [f1, f1]; exact R', S', hq', hs'⟩
        · refine ifT (by simp [z1, hr]) ?_
          have up' : ∀ {b : Addr} {o : HO}, B' b = some o → H' b = some o := fun e => S'.own _ _ e
          have kon : ∃ t, lk (M.on.filter fun q => still RR (ks M.on) j q.1) r = some t := by
            rw [← mem_ks, ks_filter, List.mem_filter]
            exact ⟨List.mem_of_getElem? er, by
              have hj2 : j < (ks M.on).length := by
                rcases Nat.lt_or_ge j (ks M.on).length with z | z
                · exact z
                · rw [List.getElem?_eq_none z] at er; cases er
              have : r ∈ (ks M.on).drop j := by
                rw [List.drop_eq_getElem_cons hj2]
                rw [List.getElem?_eq_getElem hj2] at er
                rw [Option.some.inj er]; exact List.mem_cons_self ..
              simp [still, this]⟩
          have ksl : ∃ t, lk (M.sl.filter fun q => still RR (ks M.on) j q.1) r = some t := by
            rw [← mem_ks, ks_filter, ← ek, ← ks_filter, mem_ks]; exact kon
          obtain ⟨t1, ht1⟩ := kon
          obtain ⟨t2, ht2⟩ := ksl
          refine ⟨_, rfl, x.w, _, rfl, g_on (up' R'.wd), x.oa, rfl, .inl ⟨_, .inl (up' R'.on)⟩, _, rfl, _, Sum.inl r, oV t1, up' R'.on, rfl, by rw [valV_mk]; show (lk (M.on.filter _) r).map oV = _; rw [ht1]; rfl, ?_⟩
          rw [dropK_mk]
          have R2 := R'.setOn (dr (M.on.filter fun q => still RR (ks M.on) j q.1) r)
          have S2 := S'.upd R'.on (.dK (mkV (dr (M.on.filter fun q => still RR (ks M.on) j q.1) r)))
          have nqo : q ≠ x.oa := fun z => by rw [z, R.on] at nBq; cases nBq
          have nso : s2 ≠ x.oa := fun z => by rw [z, R.on] at nBs; cases nBs
          have nqs : q ≠ x.sa := fun z => by rw [z, R.sl] at nBq; cases nBq
          have nss : s2 ≠ x.sa := fun z => by rw [z, R.sl] at nBs; cases nBs
          refine ⟨_, rfl, x.w, _, rfl, g_slots (S2.own _ _ R2.wd), x.sa, rfl, .inl ⟨_, .inl (S2.own _ _ R2.sl)⟩, _, rfl, _, Sum.inl r, V.ref (x.so r), S2.own _ _ R2.sl, rfl, by rw [valV_sl]; show (lk (M.sl.filter _) r).map _ = _; rw [ht2]; rfl, ?_⟩
          have R3 := R2.dropSl r
          have S3 := S2.upd R2.sl (.dK (slV x.so (dr (M.sl.filter fun q => still RR (ks M.on) j q.1) r)))
          refine ⟨_, _, rfl, ?_, by rw [dropK_sl]; exact S3, (upd_ne nqs).trans ((upd_ne nqo).trans hq'), (upd_ne nss).trans ((upd_ne nso).trans hs')⟩
          have nds : (ks M.on).Nodup := no
          rw [← still_out no er hr M.on, ← still_out no er hr M.sl]
          exact R3
      · rintro σ H' ⟨u2, B', rfl, R', S', hq', hs'⟩
        rw [List.length_map] at R'
        rw [still_end, still_end] at R'
        exact k B' H' R' S'
end
end Sk
end
section
/-! SwD4: the law's own wood: how deep, a call, faults. -/
namespace Sk
open PySem PySem.Spec PyProof.Rows L2 SW
theorem sq_dk {K : PySem.W.Frag} {H : Hp} {d a : Addr} {xs : List V} {kvs : List (Key × V)} {o : HO} (h : SqL K H a xs) (e : H d = some (.dK kvs)) : SqL K (upd H d o) a xs := by
  rcases h with (h | ⟨o', h⟩) | h
  · exact .inl (.inl ((upd_ne (ne_of h e (by intro z; cases z))).trans h))
  · exact .inl (.inr ⟨o', (upd_ne (ne_of h e (by intro z; cases z))).trans h⟩)
  · exact .inr h
/-- a room more: its list stands at l -/
theorem MA.addSl {B : Hp} {x : Mx} {M : Mw} (h : MA B x M) {r : Int} {v : List Int} {l : Addr} (n : lk M.sl r = none) (nl : B l = none) : MA (upd (upd B l (.lst (v.map V.int))) x.sa (.dK (putK (slV x.so M.sl) (Sum.inl r) (.ref l)))) { x with so := fun k => if k = r then l else x.so k } { M with sl := M.sl ++ [(r, v)] } := by
  have up : ∀ {b : Addr} {o : HO}, B b = some o → upd B l (.lst (v.map V.int)) b = some o := fun e => (upd_ne (ne_of_none e nl)).trans e
  have nt : ∀ {b ys}, upd B l (.lst (v.map V.int)) b = some (.lst ys) → upd (upd B l (.lst (v.map V.int))) x.sa (.dK (putK (slV x.so M.sl) (Sum.inl r) (.ref l))) b = some (.lst ys) := fun e => by rw [upd_ne (ne_of e (up h.sl) (by intro z; cases z))]; exact e
  have ep : putK (slV x.so M.sl) (Sum.inl r) (.ref l) = slV (fun k => if k = r then l else x.so k) (M.sl ++ [(r, v)]) := by
    rw [putK_new _ (by rw [valV_sl, n]; rfl)]
    unfold slV
    rw [List.map_append]
    congr 1
    · refine List.map_congr_left fun q hq => ?_
      have : q.1 ≠ r := fun z => by
        have : q.1 ∈ ks M.sl := List.mem_map.mpr ⟨q, hq, rfl⟩
        rw [z] at this
        exact not_mem_ks.mpr n this
      simp [this]
    · simp
  have lka : ∀ k u, lk (M.sl ++ [(r, v)]) k = some u → (k = r ∧ u = v) ∨ (k ≠ r ∧ lk M.sl k = some u) := fun k u e => by
    have : lk (pt M.sl r v) k = some u := by rw [pt_new n]; exact e
    rw [lk_pt] at this
    split at this
    · rename_i z; exact .inl ⟨z, (Option.some.inj this).symm⟩
    · rename_i z; exact .inr ⟨z, this⟩
  refine ⟨?_, ?_, ?_, nt (up h.tp), ?_, fun k u e => ?_, fun k s u u' e1 e2 e3 => ?_, fun k u e => ?_, h.d1, h.d2, h.d3, h.d4, h.d5, h.d6⟩
  · rw [upd_ne h.d2]; exact up h.wd
  · rw [upd_ne h.d4]; exact up h.on
  · show upd _ x.sa _ x.sa = _
    rw [upd_same, ep]
  · rw [upd_ne h.d6.symm]; exact up h.mks
  · show upd _ x.sa _ (if k = r then l else x.so k) = _
    rcases lka k u e with ⟨z1, z2⟩ | ⟨z1, z2⟩
    · subst z1 z2; rw [if_pos rfl]; exact nt upd_same
    · rw [if_neg z1]; exact nt (up (h.ss k u z2))
  · have e3 : (if k = r then l else x.so k) = (if s = r then l else x.so s) := e3
    rcases lka k u e1 with ⟨z1, z2⟩ | ⟨z1, z2⟩ <;> rcases lka s u' e2 with ⟨w1, w2⟩ | ⟨w1, w2⟩
    · rw [z1, w1]
    · rw [if_pos z1, if_neg w1] at e3
      exact absurd (h.ss s u' w2) (by rw [← e3, nl]; intro q; cases q)
    · rw [if_neg z1, if_pos w1] at e3
      exact absurd (h.ss k u z2) (by rw [e3, nl]; intro q; cases q)
    · rw [if_neg z1, if_neg w1] at e3
      exact h.si k s u u' z2 w2 e3
  · show (if k = r then l else x.so k) ≠ x.ta
    rcases lka k u e with ⟨z1, z2⟩ | ⟨z1, z2⟩
    · rw [if_pos z1]; exact fun q => by rw [q, h.tp] at nl; cases nl
    · rw [if_neg z1]; exact h.st k u z2
theorem mw_new {W : Wd} {r : Int} {f : Fr} (n : lk W.frames r = none) : onL (pt W.frames r f) = onL W.frames ++ [(r, f.below)] ∧ slL (pt W.frames r f) = slL W.frames ++ [(r, f.slots)] := by
  unfold onL slL
  rw [pt_new n, List.map_append, List.map_append]
  exact ⟨rfl, rfl⟩
theorem mpath {W : Wd} (F : WFW W) {t : Option Int} (ht : t ∈ W.tops ∨ t ∈ mv W.marks) : MPath (mw W).on t (path W.frames t) ∧ (path W.frames t).length ≤ 40 := by
  have p := F.wf.path t (F.ref ht)
  exact ⟨p.on, Nat.le_trans p.len F.len⟩
theorem free_mw (W : Wd) : ((allR (mw W).rooms).filter fun r => !has (mw W).on r) = freeR W.rooms W.frames := by
  unfold freeR
  refine List.filter_congr fun r _ => ?_
  show (!has (onL W.frames) r) = _
  rw [has_onL]
def spMDeep : Sp := fun vs H Q _ => ∃ (B : Hp) (x : Mx) (W : Wd), vs = [.ref x.w] ∧ Sub B H ∧ MA B x (mw W) ∧ WFW W ∧ ∀ H' t d, Same H H' → 0 ≤ d → d ≤ 40 → H' t = some (.tup [.int (W.tops.length : Int), .int d, .int W.many]) → Q (.ref t) H'
def spMCall (K : PySem.W.Frag) : Sp := fun vs H Q _ => ∃ (B : Hp) (x : Mx) (W : Wd) (h : Int) (a : Addr) (zs : List Int), vs = [.ref x.w, .int h, .ref a] ∧ Sub B H ∧ MA B x (mw W) ∧ WFW W ∧ hOk W h ∧ SqL K H a (zs.map V.int) ∧
  match doCall W h zs with
  | .error e => ∀ H', Same H H' → Q (.str (ern e)) H'
  | .ok (r, W') => ∀ B' x' H', x'.w = x.w → MA B' x' (mw W') → Stp B H B' H' → Q (.int r) H'
section
variable {P : Program} {w : World} {K : PySem.W.Frag} {mg : Str → Option Value} {base : Heap}
theorem ok_l_deep (T : Txt K mg) : FnOk P w K mg base CX0 2 (aG K "_law_deep") (fdOf K (aG K "_law_deep")) ["_law_w"] spMDeep := by
  refine T.F_l_deep.ok sc_l_deep (fun vs H Q E h => ?_) (fun cdv A outer s H vs Q E hr h => ?_)
  · obtain ⟨_, _, _, rfl, _⟩ := h; rfl
  · obtain ⟨B, x, W, rfl, s0, R, F, k⟩ := h
    refine ⟨_, PSs.nox (pss_one (ps_ret (pe_tup (pa_cons (pe_callB (call_lenK K rfl) rfl T.n_len PySem.boot_len (pa_cons (pe_dget (hu_of hr) (pv 0) pe_str (fun _ _ => rfl)) pa_nil)) (pa_cons (pe_callB (cr_max rfl) rfl T.n_max (by decide +kernel) (pa_cons (pe_lc (own := [("_law_last", 1)]) (g := gName 1) rfl sc_l_deep.nd (pi_listK K rfl (pe_dget (hu_of hr) (pv 0) pe_str (fun _ _ => rfl))) (blkOk_by (own := [("_law_last", 1)]) (N := ["_law_w", "_law_last"]) (sc := (defScope s_l_deep)) (by decide +kernel)) (fun _ _ _ _ _ => pg_name (i := 1) sc_l_deep.nd rfl (Or.inl rfl)) (fun _ _ _ _ _ => by exact pts_nil) (fun _ _ _ _ _ => by exact (pe_callB (call_lenK K rfl) rfl T.n_len PySem.boot_len (pa_cons (pe_call (ok_l_pile T) (hr.mono (by decide)) rfl T.g__law_pile T.F_l_pile.kp T.b_l_pile .nil pass0 (pa_cons (pv 0) (pa_cons (pv 1) pa_nil))) pa_nil)))) pa_nil)) (pa_cons (pe_dget (hu_of hr) (pv 0) pe_str (fun _ _ => rfl)) pa_nil)))))), ?_⟩
    have hw := s0 _ _ R.wd
    have h6 := F.h6
    have h1' := F.h1
    refine ⟨_, rfl, x.w, _, rfl, g_tops hw, x.ta, _, rfl, .inl (SqL.of (s0 _ _ R.tp)), ?_⟩
    refine ⟨_, rfl, x.w, _, rfl, g_tops hw, x.ta, rfl, ⟨_, SqL.of (s0 _ _ R.tp)⟩, fun D nD => ?_⟩
    refine lc_list (K := K) (a := x.ta) (xs := W.tops.map oV) (fun i H' => H' D = some (.lst ((((W.tops.take i).map fun t => ((path W.frames t).length : Int))).map V.int)) ∧ Same H H') ⟨upd_same, same_new nD _⟩ (fun i H' _ ⟨_, e⟩ => SqL.of (e _ _ (s0 _ _ R.tp))) ?_ ?_
    · rintro i v H' hi ⟨h1, h3⟩
      obtain ⟨t, er, rfl⟩ : ∃ t, W.tops[i]? = some t ∧ v = oV t := by
        rw [List.getElem?_map] at hi
        cases e : W.tops[i]? with
        | none => rw [e] at hi; cases hi
        | some r => rw [e] at hi; exact ⟨r, rfl, (Option.some.inj hi).symm⟩
      have hil : i < W.tops.length := by
        rcases Nat.lt_or_ge i W.tops.length with z | z
        · exact z
        · rw [List.getElem?_eq_none z] at er; cases er
      obtain ⟨mp, ml⟩ := mpath F (.inl (List.mem_of_getElem? er))
      refine ⟨rfl, yesT rfl ?_⟩
      refine ⟨_, rfl, _, rfl, B, x, mw W, t, path W.frames t, rfl, fun b o e => h3 _ _ (s0 _ _ e), R, mp, by omega, fun q nq => ⟨q, _, rfl, .inl (SqL.of upd_same), ?_⟩⟩
      have hD := (upd_ne (ne_of_none h1 nq) (o := .lst ((path W.frames t).map V.int))).trans h1
      refine ⟨_, hD, szl (by rw [List.length_map, List.length_map, List.length_take]; omega), ?_, fun b o e => ?_⟩
      · rw [upd_same, take_snocC er, List.map_append, List.map_append, List.length_map]; rfl
      · rw [upd_ne (ne_of_none e nD), upd_ne (ne_of_none (h3 _ _ e) nq)]; exact h3 _ _ e
    · rintro H' ⟨h1, h3⟩
      rw [List.length_map, List.take_length] at h1
      refine ⟨D, _, rfl, SqL.of h1, by rw [List.length_map]; omega, fun m hm _ => ?_⟩
      obtain ⟨t, ht, rfl⟩ := List.mem_map.mp hm
      have ml := (mpath F (.inl ht)).2
      refine ⟨_, rfl, x.w, _, rfl, g_many (h3 _ _ hw), by show 3 ≤ sizeLine; exact sz (by omega), fun t' nt => ?_⟩
      refine k _ t' ((path W.frames t).length : Int) (h3.trans (same_new nt _)) (by omega) (by omega) ?_
      rw [upd_same, List.length_map]; rfl
theorem eqv_nil (l : List Int) : PyData.eqv (.list (l.map PyData.int)) (.list []) = decide (l = []) := by
  cases l with
  | nil => decide +kernel
  | cons a r => simp [PyData.eqv, PyData.eqvAll]
theorem ok_l_call (T : Txt K mg) : FnOk P w K mg base CX0 2 (aG K "_law_call") (fdOf K (aG K "_law_call")) ["_law_w", "_law_hand", "_law_values"] (spMCall K) := by
  refine T.F_l_call.ok sc_l_call (fun vs H Q E h => ?_) (fun cdv A outer s H vs Q E hr h => ?_)
  · obtain ⟨_, _, _, _, _, _, rfl, _⟩ := h; rfl
  · obtain ⟨B, x, W, h, a, zs, rfl, s0, R, F, hk, hq, k⟩ := h
    refine ⟨_, PSs.nox (pss_cons (ps_if (pt_cmpR op_gt (pe_callB (call_lenK K rfl) rfl T.n_len PySem.boot_len (pa_cons (pv 2) pa_nil)) pe_int (nomark _)) (pss_one (ps_ret pe_str)) pss_nil) (pss_cons (ps_if (pt_cmpR (op_eqDK K rfl hr.units) (pe_call (ok_l_free T) (hr.mono (by decide)) rfl T.g__law_free T.F_l_free.kp T.b_l_free .nil pass0 (pa_cons (pv 0) pa_nil)) (pe_lst pa_nil) (nomark _)) (pss_one (ps_ret pe_str)) pss_nil) (pss_cons (ps_set (i := 3) sc_l_call.nd rfl (Or.inl rfl) (pe_ix (ix_listK K rfl) (pe_call (ok_l_free T) (hr.mono (by decide)) rfl T.g__law_free T.F_l_free.kp T.b_l_free .nil pass0 (pa_cons (pv 0) pa_nil)) pe_int (fun _ _ => rfl))) (pss_cons (ps_dput (hu_of hr) (pe_dget (hu_of hr) (pv 0) pe_str (fun _ _ => rfl)) (pv 3) (pe_ix (ix_listK K rfl) (pe_dget (hu_of hr) (pv 0) pe_str (fun _ _ => rfl)) (pv 1) (fun _ _ => rfl)) rfl) (pss_cons (ps_dput (hu_of hr) (pe_dget (hu_of hr) (pv 0) pe_str (fun _ _ => rfl)) (pv 3) (pe_callTy (call_listK K rfl) rfl T.n_list (by decide +kernel) (pa_cons (pv 2) pa_nil)) rfl) (pss_cons (ps_asg (pv 3) (pg_sub (pe_dget (hu_of hr) (pv 0) pe_str (fun _ _ => rfl)) (pv 1) set_list)) (pss_one (ps_ret (pv 3))))))))), ?_⟩
    unfold doCall at k
    rw [if_neg (fun z => z hk)] at k
    refine ⟨_, rfl, a, _, rfl, .inl hq, _, _, rfl, rfl, _, rfl, ?_⟩
    rw [List.length_map]
    by_cases c1 : 3 < zs.length
    · rw [if_pos c1] at k
      refine ifT (decide_eq_true (by omega)) ?_
      exact k _ (Same.refl _)
    rw [if_neg c1] at k
    refine ifF (decide_eq_false (by omega)) ?_
    have fl := freeR_len (by have := F.r1; omega) F.wf.nd F.rng
    refine ⟨_, rfl, B, x, mw W, rfl, s0, R, ⟨F.r1, F.r40⟩, fun p np => ?_⟩
    rw [free_mw]
    have e1 := same_new np (.lst ((freeR W.rooms W.frames).map V.int))
    refine ⟨by show 0 ≤ sizeLine; exact sz (by omega), fun z nz => ?_⟩
    have e2 := e1.trans (same_new nz (.lst []))
    have hp2 : upd (upd H p (.lst ((freeR W.rooms W.frames).map V.int))) z (.lst []) p = some _ := (upd_ne (ne_of_none upd_same nz)).trans upd_same
    refine ⟨_, .list [], dp_ints hp2, .lst (SqL.of upd_same) .nil, shaped_ints _, rfl, _, rfl, ?_⟩
    by_cases c2 : W.rooms < (W.frames.length : Int) + 1
    · rw [if_pos c2] at k
      have fn : freeR W.rooms W.frames = [] := List.length_eq_zero_iff.mp (by omega)
      refine ifT (by rw [fn]; decide +kernel) ?_
      exact k _ e2
    rw [if_neg c2] at k
    obtain ⟨r, fr, efr⟩ : ∃ r fr, freeR W.rooms W.frames = r :: fr := by
      cases e : freeR W.rooms W.frames with
      | nil => rw [e] at fl; simp at fl; omega
      | cons r fr => exact ⟨r, fr, rfl⟩
    refine ifF (by rw [eqv_nil, efr]; rfl) ?_
    have er : newRoom W.rooms W.frames = r := by unfold newRoom; rw [efr]; rfl
    rw [er] at k
    have nr : lk W.frames r = none := (mem_freeR.mp (by rw [efr]; exact List.mem_cons_self ..)).2
    generalize upd (upd H p (.lst ((freeR W.rooms W.frames).map V.int))) z (.lst []) = H2 at e2
    clear hp2 e1 np nz
    have S2 := (Stp.refl s0).same e2
    refine ⟨_, rfl, B, x, mw W, rfl, S2.own, R, ⟨F.r1, F.r40⟩, fun p np => ?_⟩
    rw [free_mw, efr]
    have S3 := S2.same (same_new np (.lst ((r :: fr).map V.int)))
    have e3 := e2.trans (same_new np (.lst ((r :: fr).map V.int)))
    refine ⟨p, _, _, _, rfl, rfl, SqL.of upd_same, atI_nat (j := 0) rfl, ?_⟩
    generalize upd H2 p (.lst ((r :: fr).map V.int)) = H3 at S3 e3
    have hw := S3.own _ _ R.wd
    -- on[room] = tops[hand]
    refine ⟨_, rfl, x.w, _, rfl, g_tops hw, _, rfl, x.ta, _, _, _, rfl, rfl, SqL.of (S3.own _ _ R.tp), atI_tops hk, _, rfl, x.w, _, rfl, g_on hw, _, rfl, x.oa, _, rfl, DPut.k (k := Sum.inl r) (S3.own _ _ R.on) (szl (by rw [mkV_len]; show (onL W.frames).length ≤ 100000; unfold onL; rw [List.length_map]; have := F.len; omega)), ?_⟩
    have non : lk (onL W.frames) r = none := by rw [lk_onL, nr]; rfl
    have eput : putK (mkV (mw W).on) (Sum.inl r) (oV (top W h)) = mkV (onL W.frames ++ [(r, top W h)]) := by
      rw [← pt_new non]; exact putK_mk _ non
    rw [eput]
    have R4 := R.setOn (onL W.frames ++ [(r, top W h)])
    have S4 := S3.upd R.on (.dK (mkV (onL W.frames ++ [(r, top W h)])))
    have hq4 : SqL K (upd H3 x.oa (.dK (mkV (onL W.frames ++ [(r, top W h)])))) a (zs.map V.int) := sq_dk (e3.seq hq) (S3.own _ _ R.on)
    generalize upd B x.oa (.dK (mkV (onL W.frames ++ [(r, top W h)]))) = B4 at R4 S4
    generalize upd H3 x.oa (.dK (mkV (onL W.frames ++ [(r, top W h)]))) = H4 at S4 hq4
    -- slots[room] = list(values)
    refine ⟨_, rfl, a, _, rfl, .inl hq4, fun l nl => ?_⟩
    have S5 := S4.new' nl (.lst (zs.map V.int))
    have nlB := S4.free nl
    have upB : ∀ {b : Addr} {o : HO}, B4 b = some o → upd B4 l (.lst (zs.map V.int)) b = some o := fun e => (upd_ne (ne_of_none e nlB)).trans e
    refine ⟨_, rfl, x.w, _, rfl, g_slots (S5.own _ _ (upB R4.wd)), _, rfl, x.sa, _, rfl, DPut.k (k := Sum.inl r) (S5.own _ _ (upB R4.sl)) (szl (by unfold slV; rw [List.length_map]; show (slL W.frames).length ≤ 100000; unfold slL; rw [List.length_map]; have := F.len; omega)), ?_⟩
    have nsl : lk (slL W.frames) r = none := by rw [lk_slL, nr]; rfl
    have R6 := R4.addSl (v := zs) nsl nlB
    have S6 := S5.upd (upB R4.sl) (.dK (putK (slV x.so (slL W.frames)) (Sum.inl r) (.ref l)))
    refine ⟨_, rfl, _, rfl, x.w, _, rfl, g_tops (S6.own _ _ R6.wd), _, rfl, x.ta, _, h, h.toNat, rfl, rfl, S6.own _ _ R6.tp, by rw [List.length_map]; exact ixN_ok hk.1 hk.2, ?_⟩
    refine ⟨_, rfl, ?_⟩
    have em : ∀ W' : Wd, W' = { W with frames := pt W.frames r ⟨top W h, zs, 1⟩, tops := W.tops.set h.toNat (some r) } → mw W' = { { { mw W with on := onL W.frames ++ [(r, top W h)] } with sl := slL W.frames ++ [(r, zs)] } with tops := W.tops.set h.toNat (some r) } := fun W' e => by
      obtain ⟨a1, a2⟩ := mw_new (f := ⟨top W h, zs, 1⟩) nr
      rw [e]
      unfold mw
      rw [a1, a2]
    have R7 := R6.setTops (W.tops.set h.toNat (some r))
    have S7 := S6.upd R6.tp (.lst ((W.tops.set h.toNat (some r)).map oV))
    have fin := fun z => k _ { x with so := fun k => if k = r then l else x.so k } _ rfl z S7
    have fin2 := fin (by rw [em _ rfl]; exact R7)
    rw [List.map_set] at fin2
    exact fin2
end
end Sk
end
section
/-! SwD5: the law's own wood: what can't be done. -/
namespace Sk
open PySem PySem.Spec PyProof.Rows L2 SW
def hands1 : Deed → List Int
  | .call h _ => [h]
  | .back h => [h]
  | .put h _ _ _ => [h]
  | .branch h _ => [h]
  | .keep h => [h]
  | .leap h _ => [h]
  | .forget _ => []
def hands2 : Deed → List Int
  | .branch h k => [h, k]
  | D => hands1 D
def badH (n : Int) (l : List Int) : List Int := l.filter fun h => !(decide (0 ≤ h) && decide (h < n))
def faultP (ms : List (Int × Option Int)) : Deed → Option Er
  | .leap _ p => if has ms p then none else some .place
  | .forget p => if has ms p then none else some .place
  | _ => none
def faultD (n : Int) (ms : List (Int × Option Int)) (D : Deed) : Option Er := if badH n (hands2 D) = [] then faultP ms D else some .hand
def erS : Option Er → Str
  | none => Str.ofString ""
  | some e => ern e
def spMFault : Sp := fun vs H Q _ => ∃ (B : Hp) (x : Mx) (M : Mw) (t : Addr) (D : Deed), vs = [.ref x.w, .ref t] ∧ Sub B H ∧ MA B x M ∧ DeedAt H t D ∧ ∀ H', Same H H' → Q (.str (erS (faultD (M.tops.length : Int) M.marks D))) H'
theorem hands2_len (D : Deed) : (hands2 D).length ≤ 2 := by cases D <;> simp [hands2, hands1]
section
variable {P : Program} {w : World} {K : PySem.W.Frag} {mg : Str → Option Value} {base : Heap}
theorem ok_l_fault (T : Txt K mg) : FnOk P w K mg base CX0 1 (aG K "_law_fault") (fdOf K (aG K "_law_fault")) ["_law_w", "_law_deed_here"] spMFault := by
  refine T.F_l_fault.ok sc_l_fault (fun vs H Q E h => ?_) (fun cdv A outer s H vs Q E hr h => ?_)
  · obtain ⟨_, _, _, _, _, rfl, _⟩ := h; rfl
  · obtain ⟨B, x, M, t, D, rfl, s0, R, hD, k⟩ := h
    refine ⟨_, PSs.nox (pss_cons (ps_set (i := 2) sc_l_fault.nd rfl (Or.inl rfl) (pe_lst pa_nil)) (pss_cons (ps_if (pt_cmpR op_ne (pe_ix (ix_tupK K rfl) (pv 1) pe_int (fun _ _ => rfl)) pe_str (nomark _)) (pss_one (ps_expr (pe_bm PySem.F.plainAttrs_list PySem.F.slot_list_append PySem.F.type_list_append mt_append (pv 2) (pa_cons (pe_ix (ix_tupK K rfl) (pv 1) pe_int (fun _ _ => rfl)) pa_nil)))) pss_nil) (pss_cons (ps_if (pt_cmpR op_eq (pe_ix (ix_tupK K rfl) (pv 1) pe_int (fun _ _ => rfl)) pe_str (nomark _)) (pss_one (ps_expr (pe_bm PySem.F.plainAttrs_list PySem.F.slot_list_append PySem.F.type_list_append mt_append (pv 2) (pa_cons (pe_ix (ix_tupK K rfl) (pv 1) pe_int (fun _ _ => rfl)) pa_nil)))) pss_nil) (pss_cons (ps_if (pt_cmpR (op_neDK K rfl hr.units) (pe_lc (own := [("_law_one", 3)]) (g := gName 3) rfl sc_l_fault.nd (pi_listK K rfl (pv 2)) (blkOk_by (own := [("_law_one", 3)]) (N := ["_law_w", "_law_deed_here", "_law_some", "_law_one"]) (sc := (defScope s_l_fault)) (by decide +kernel)) (fun _ _ _ _ _ => pg_name (i := 3) sc_l_fault.nd rfl (Or.inl rfl)) (fun _ _ _ _ _ => by exact (pts_one (pt_not (pt_chain op_le op_lt pe_int (pv 3) (pe_callB (call_lenK K rfl) rfl T.n_len PySem.boot_len (pa_cons (pe_dget (hu_of hr) (pv 0) pe_str (fun _ _ => rfl)) pa_nil)))))) (fun _ _ _ _ _ => by exact (pv 3))) (pe_lst pa_nil) (nomark _)) (pss_one (ps_ret pe_str)) pss_nil) (pss_cons (ps_if (PW.pt (pw_and (pt_cmpR (op_in_seqK K rfl) (pe_ix (ix_tupK K rfl) (pv 1) pe_int (fun _ _ => rfl)) (pe_tup (pa_cons pe_str (pa_cons pe_str pa_nil))) rfl) (pw_and1 (pt_cmp (pc_dnotin (hu_of hr) (pe_ix (ix_tupK K rfl) (pv 1) (pe_un un_neg pe_int) (fun _ _ => rfl)) (pe_dget (hu_of hr) (pv 0) pe_str (fun _ _ => rfl))))))) (pss_one (ps_ret pe_str)) pss_nil) (pss_one (ps_ret pe_str))))))), ?_⟩
    refine ⟨by show 0 ≤ sizeLine; exact sz (by omega), fun s ns => ?_⟩
    have e1 := same_new ns (.lst [])
    refine gName_to ?_
    with_reducible refine if_split (fun σ H' => σ = [some (.ref x.w), some (.ref t), some (.ref s), none] ∧ H' s = some (.lst ((hands1 D).map V.int)) ∧ Same H H') (fun σ H1 hI => ?_) (fun nx' hn => ?_)
    · obtain ⟨rfl, h1, e1⟩ := hI
      with_reducible refine if_split (fun σ H' => σ = [some (.ref x.w), some (.ref t), some (.ref s), none] ∧ H' s = some (.lst ((hands2 D).map V.int)) ∧ Same H H') (fun σ H2 hI => ?_) (fun nx' hn => ?_)
      · clear h1 e1
        obtain ⟨rfl, h2, e2⟩ := hI
        have l2 := hands2_len D
        have hD2 := hD.up (H' := H2) (fun b xs e => e2 _ _ e) (fun b xs e => e2 _ _ e)
        refine ⟨_, rfl, s, rfl, ⟨_, SqL.of h2⟩, fun C nC => ?_⟩
        refine lc_list (K := K) (a := s) (xs := (hands2 D).map V.int) (fun i H' => H' C = some (.lst ((badH (M.tops.length : Int) ((hands2 D).take i)).map V.int)) ∧ Same H2 H') ⟨upd_same, same_new nC _⟩ (fun i H' _ ⟨_, e⟩ => SqL.of (e _ _ h2)) ?_ ?_
        · rintro i v H' hi ⟨q1, q3⟩
          obtain ⟨r, er, rfl⟩ : ∃ r, (hands2 D)[i]? = some r ∧ v = V.int r := by
            rw [List.getElem?_map] at hi
            cases e : (hands2 D)[i]? with
            | none => rw [e] at hi; cases hi
            | some r => rw [e] at hi; exact ⟨r, rfl, (Option.some.inj hi).symm⟩
          have l5 : (badH (M.tops.length : Int) ((hands2 D).take i)).length ≤ 2 := by
            unfold badH
            have := List.length_filter_le (fun h => !(decide (0 ≤ h) && decide (h < (M.tops.length : Int)))) ((hands2 D).take i)
            rw [List.length_take] at this
            omega
          have e4 : badH (M.tops.length : Int) ((hands2 D).take (i + 1)) = badH (M.tops.length : Int) ((hands2 D).take i) ++ if (0 ≤ r ∧ r < (M.tops.length : Int)) then [] else [r] := by
            unfold badH
            rw [take_snocC er, List.filter_append]
            by_cases z1 : 0 ≤ r <;> by_cases z2 : r < (M.tops.length : Int) <;> simp [z1, z2]
          have up : ∀ {b : Addr} {o : HO}, B b = some o → H' b = some o := fun e => q3 _ _ (e2 _ _ (s0 _ _ e))
          have push : ¬ (0 ≤ r ∧ r < (M.tops.length : Int)) → ∃ acc, H' C = some (.lst acc) ∧ acc.length < sizeLine ∧ (upd H' C (.lst (acc ++ [V.int r])) C = some (.lst ((badH (M.tops.length : Int) ((hands2 D).take (i + 1))).map V.int)) ∧ Same H2 (upd H' C (.lst (acc ++ [V.int r])))) := fun z =>
            ⟨_, q1, szl (by rw [List.length_map]; omega), by rw [upd_same, e4, if_neg z, List.map_append]; rfl, fun b o e => by rw [upd_ne (ne_of_none e nC)]; exact q3 _ _ e⟩
          refine ⟨rfl, ?_⟩
          refine ⟨_, rfl, _, _, rfl, rfl, _, rfl, ?_⟩
          by_cases h0 : 0 ≤ r
          · rw [decide_eq_true h0]
            refine iteT ⟨_, rfl, x.w, _, rfl, g_tops (up R.wd), x.ta, _, rfl, .inl (SqL.of (up R.tp)), _, _, rfl, rfl, _, rfl, ?_⟩
            rw [List.length_map]
            by_cases h3 : r < (M.tops.length : Int)
            · rw [decide_eq_true h3]
              refine iteF ?_
              rw [e4, if_pos ⟨h0, h3⟩, List.append_nil]
              exact ⟨q1, q3⟩
            · rw [decide_eq_false h3]
              exact iteT ⟨_, rfl, push fun z => h3 z.2⟩
          · rw [decide_eq_false h0]
            exact iteF ⟨_, rfl, iteT ⟨_, rfl, push fun z => h0 z.1⟩⟩
        · rintro H3 ⟨q1, q3⟩
          rw [List.length_map, List.take_length] at q1
          have e3 := e2.trans q3
          refine ⟨by show 0 ≤ sizeLine; exact sz (by omega), fun z nz => ?_⟩
          have e4 := e3.trans (same_new nz (.lst []))
          have q4 := (upd_ne (ne_of_none q1 nz) (o := .lst [])).trans q1
          refine ⟨_, .list [], dp_ints q4, .lst (SqL.of upd_same) .nil, shaped_ints _, rfl, _, rfl, ?_⟩
          unfold faultD at k
          by_cases hb : badH (M.tops.length : Int) (hands2 D) = []
          · rw [if_pos hb] at k
            refine ifF (by rw [eqv_nil, hb]; rfl) ?_
            have hD4 := hD.up (H' := upd H3 z (.lst [])) (fun b xs e => e4 _ _ e) (fun b xs e => e4 _ _ e)
            generalize upd H3 z (.lst []) = H4 at e4 hD4
            have up : ∀ {b : Addr} {o : HO}, B b = some o → H4 b = some o := fun e => e4 _ _ (s0 _ _ e)
            cases D with
            | call h vs =>
              obtain ⟨ll, ht, _⟩ := hD4
              refine ⟨_, rfl, t, _, _, _, rfl, rfl, SqT.of ht, atI_nat (j := 0) rfl, by show 2 ≤ sizeLine; exact sz (by omega), fun l2 n2 => ?_⟩
              refine ⟨l2, _, rfl, .inr (SqT.of upd_same), rfl, rfl, _, rfl, ifF (by decide +kernel) ?_⟩
              exact k _ (e4.trans (same_new n2 _))
            | back h =>
              have ht : H4 t = _ := hD4
              refine ⟨_, rfl, t, _, _, _, rfl, rfl, SqT.of ht, atI_nat (j := 0) rfl, by show 2 ≤ sizeLine; exact sz (by omega), fun l2 n2 => ?_⟩
              refine ⟨l2, _, rfl, .inr (SqT.of upd_same), rfl, rfl, _, rfl, ifF (by decide +kernel) ?_⟩
              exact k _ (e4.trans (same_new n2 _))
            | put h d sl0 v =>
              have ht : H4 t = _ := hD4
              refine ⟨_, rfl, t, _, _, _, rfl, rfl, SqT.of ht, atI_nat (j := 0) rfl, by show 2 ≤ sizeLine; exact sz (by omega), fun l2 n2 => ?_⟩
              refine ⟨l2, _, rfl, .inr (SqT.of upd_same), rfl, rfl, _, rfl, ifF (by decide +kernel) ?_⟩
              exact k _ (e4.trans (same_new n2 _))
            | branch h k =>
              have ht : H4 t = _ := hD4
              refine ⟨_, rfl, t, _, _, _, rfl, rfl, SqT.of ht, atI_nat (j := 0) rfl, by show 2 ≤ sizeLine; exact sz (by omega), fun l2 n2 => ?_⟩
              refine ⟨l2, _, rfl, .inr (SqT.of upd_same), rfl, rfl, _, rfl, ifF (by decide +kernel) ?_⟩
              exact k _ (e4.trans (same_new n2 _))
            | keep h =>
              have ht : H4 t = _ := hD4
              refine ⟨_, rfl, t, _, _, _, rfl, rfl, SqT.of ht, atI_nat (j := 0) rfl, by show 2 ≤ sizeLine; exact sz (by omega), fun l2 n2 => ?_⟩
              refine ⟨l2, _, rfl, .inr (SqT.of upd_same), rfl, rfl, _, rfl, ifF (by decide +kernel) ?_⟩
              exact k _ (e4.trans (same_new n2 _))
            | leap h p =>
              have ht : H4 t = _ := hD4
              refine ⟨_, rfl, t, _, _, _, rfl, rfl, SqT.of ht, atI_nat (j := 0) rfl, by show 2 ≤ sizeLine; exact sz (by omega), fun l2 n2 => ?_⟩
              refine ⟨l2, _, rfl, .inr (SqT.of upd_same), rfl, rfl, _, rfl, ifT (by decide +kernel) ?_⟩
              have e5 := same_new n2 (.tup [V.str "leap", V.str "forget"])
              have ht2 := e5 _ _ ht
              have gd : DGet (upd H4 l2 (.tup [V.str "leap", V.str "forget"])) x.ma (V.int p) ((lk M.marks p).map oV) := by
                have := DGet.k (k := Sum.inl p) (e5 _ _ (up R.mks))
                rw [valV_mk] at this; exact this
              refine ⟨_, rfl, _, rfl, t, _, _, _, rfl, rfl, SqT.of ht2, rfl, _, rfl, x.w, _, rfl, g_marks (e5 _ _ (up R.wd)), x.ma, _, rfl, gd, _, rfl, ?_⟩
              have k : ∀ H', Same H H' → Q (.str (erS (if (lk M.marks p).isSome = true then none else some Er.place))) H' := k
              cases em : lk M.marks p with
              | none => rw [em] at k; exact iteT (k _ (e4.trans e5))
              | some v => rw [em] at k; exact iteF (k _ (e4.trans e5))
            | forget p =>
              have ht : H4 t = _ := hD4
              refine ⟨_, rfl, t, _, _, _, rfl, rfl, SqT.of ht, atI_nat (j := 0) rfl, by show 2 ≤ sizeLine; exact sz (by omega), fun l2 n2 => ?_⟩
              refine ⟨l2, _, rfl, .inr (SqT.of upd_same), rfl, rfl, _, rfl, ifT (by decide +kernel) ?_⟩
              have e5 := same_new n2 (.tup [V.str "leap", V.str "forget"])
              have ht2 := e5 _ _ ht
              have gd : DGet (upd H4 l2 (.tup [V.str "leap", V.str "forget"])) x.ma (V.int p) ((lk M.marks p).map oV) := by
                have := DGet.k (k := Sum.inl p) (e5 _ _ (up R.mks))
                rw [valV_mk] at this; exact this
              refine ⟨_, rfl, _, rfl, t, _, _, _, rfl, rfl, SqT.of ht2, rfl, _, rfl, x.w, _, rfl, g_marks (e5 _ _ (up R.wd)), x.ma, _, rfl, gd, _, rfl, ?_⟩
              have k : ∀ H', Same H H' → Q (.str (erS (if (lk M.marks p).isSome = true then none else some Er.place))) H' := k
              cases em : lk M.marks p with
              | none => rw [em] at k; exact iteT (k _ (e4.trans e5))
              | some v => rw [em] at k; exact iteF (k _ (e4.trans e5))
          · rw [if_neg hb] at k
            refine ifT (by rw [eqv_nil]; simp [hb]) ?_
            exact k _ e4
      · cases D with
        | call h vs =>
          obtain ⟨ll, ht, hl⟩ := hD
          have ht := e1 _ _ ht
          refine ⟨_, rfl, t, _, _, _, rfl, rfl, SqT.of ht, atI_nat (j := 0) rfl, rfl, _, rfl, ifF (by decide +kernel) ?_⟩
          exact hn _ _ ⟨rfl, h1, e1⟩
        | back h =>
          have ht : H1 t = _ := e1 _ _ (show H t = _ from hD)
          refine ⟨_, rfl, t, _, _, _, rfl, rfl, SqT.of ht, atI_nat (j := 0) rfl, rfl, _, rfl, ifF (by decide +kernel) ?_⟩
          exact hn _ _ ⟨rfl, h1, e1⟩
        | put h d sl0 v =>
          have ht : H1 t = _ := e1 _ _ (show H t = _ from hD)
          refine ⟨_, rfl, t, _, _, _, rfl, rfl, SqT.of ht, atI_nat (j := 0) rfl, rfl, _, rfl, ifF (by decide +kernel) ?_⟩
          exact hn _ _ ⟨rfl, h1, e1⟩
        | branch h k =>
          have ht : H1 t = _ := e1 _ _ (show H t = _ from hD)
          refine ⟨_, rfl, t, _, _, _, rfl, rfl, SqT.of ht, atI_nat (j := 0) rfl, rfl, _, rfl, ifT (by decide +kernel) ?_⟩
          refine ⟨_, rfl, .inl ⟨rfl, _, SqL.of h1⟩, _, rfl, t, _, _, _, rfl, rfl, SqT.of ht, atI_nat (j := 2) rfl, s, _, _, rfl, rfl, h1, szl (by show 1 ≤ 100000; omega), ?_⟩
          exact hn _ _ ⟨rfl, by rw [upd_same]; rfl, fun b o e => by rw [upd_ne (ne_of_none e ns)]; exact e1 _ _ e⟩
        | keep h =>
          have ht : H1 t = _ := e1 _ _ (show H t = _ from hD)
          refine ⟨_, rfl, t, _, _, _, rfl, rfl, SqT.of ht, atI_nat (j := 0) rfl, rfl, _, rfl, ifF (by decide +kernel) ?_⟩
          exact hn _ _ ⟨rfl, h1, e1⟩
        | leap h p =>
          have ht : H1 t = _ := e1 _ _ (show H t = _ from hD)
          refine ⟨_, rfl, t, _, _, _, rfl, rfl, SqT.of ht, atI_nat (j := 0) rfl, rfl, _, rfl, ifF (by decide +kernel) ?_⟩
          exact hn _ _ ⟨rfl, h1, e1⟩
        | forget p =>
          have ht : H1 t = _ := e1 _ _ (show H t = _ from hD)
          refine ⟨_, rfl, t, _, _, _, rfl, rfl, SqT.of ht, atI_nat (j := 0) rfl, rfl, _, rfl, ifF (by decide +kernel) ?_⟩
          exact hn _ _ ⟨rfl, h1, e1⟩
    · cases D with
      | call h vs =>
        obtain ⟨ll, ht, hl⟩ := hD
        have ht := e1 _ _ ht
        refine ⟨_, rfl, t, _, _, _, rfl, rfl, SqT.of ht, atI_nat (j := 0) rfl, rfl, _, rfl, ifT (by decide +kernel) ?_⟩
        refine ⟨_, rfl, .inl ⟨rfl, _, SqL.of upd_same⟩, _, rfl, t, _, _, _, rfl, rfl, SqT.of ht, atI_nat (j := 1) rfl, s, _, _, rfl, rfl, upd_same, szl (by show 0 ≤ 100000; omega), ?_⟩
        exact hn _ _ ⟨rfl, by rw [upd_same]; rfl, fun b o e => by rw [upd_ne (ne_of_none e ns)]; exact e1 _ _ e⟩
      | back h =>
        have ht := e1 _ _ (show H t = _ from hD)
        refine ⟨_, rfl, t, _, _, _, rfl, rfl, SqT.of ht, atI_nat (j := 0) rfl, rfl, _, rfl, ifT (by decide +kernel) ?_⟩
        refine ⟨_, rfl, .inl ⟨rfl, _, SqL.of upd_same⟩, _, rfl, t, _, _, _, rfl, rfl, SqT.of ht, atI_nat (j := 1) rfl, s, _, _, rfl, rfl, upd_same, szl (by show 0 ≤ 100000; omega), ?_⟩
        exact hn _ _ ⟨rfl, by rw [upd_same]; rfl, fun b o e => by rw [upd_ne (ne_of_none e ns)]; exact e1 _ _ e⟩
      | put h d sl0 v =>
        have ht := e1 _ _ (show H t = _ from hD)
        refine ⟨_, rfl, t, _, _, _, rfl, rfl, SqT.of ht, atI_nat (j := 0) rfl, rfl, _, rfl, ifT (by decide +kernel) ?_⟩
        refine ⟨_, rfl, .inl ⟨rfl, _, SqL.of upd_same⟩, _, rfl, t, _, _, _, rfl, rfl, SqT.of ht, atI_nat (j := 1) rfl, s, _, _, rfl, rfl, upd_same, szl (by show 0 ≤ 100000; omega), ?_⟩
        exact hn _ _ ⟨rfl, by rw [upd_same]; rfl, fun b o e => by rw [upd_ne (ne_of_none e ns)]; exact e1 _ _ e⟩
      | branch h k =>
        have ht := e1 _ _ (show H t = _ from hD)
        refine ⟨_, rfl, t, _, _, _, rfl, rfl, SqT.of ht, atI_nat (j := 0) rfl, rfl, _, rfl, ifT (by decide +kernel) ?_⟩
        refine ⟨_, rfl, .inl ⟨rfl, _, SqL.of upd_same⟩, _, rfl, t, _, _, _, rfl, rfl, SqT.of ht, atI_nat (j := 1) rfl, s, _, _, rfl, rfl, upd_same, szl (by show 0 ≤ 100000; omega), ?_⟩
        exact hn _ _ ⟨rfl, by rw [upd_same]; rfl, fun b o e => by rw [upd_ne (ne_of_none e ns)]; exact e1 _ _ e⟩
      | keep h =>
        have ht := e1 _ _ (show H t = _ from hD)
        refine ⟨_, rfl, t, _, _, _, rfl, rfl, SqT.of ht, atI_nat (j := 0) rfl, rfl, _, rfl, ifT (by decide +kernel) ?_⟩
        refine ⟨_, rfl, .inl ⟨rfl, _, SqL.of upd_same⟩, _, rfl, t, _, _, _, rfl, rfl, SqT.of ht, atI_nat (j := 1) rfl, s, _, _, rfl, rfl, upd_same, szl (by show 0 ≤ 100000; omega), ?_⟩
        exact hn _ _ ⟨rfl, by rw [upd_same]; rfl, fun b o e => by rw [upd_ne (ne_of_none e ns)]; exact e1 _ _ e⟩
      | leap h p =>
        have ht := e1 _ _ (show H t = _ from hD)
        refine ⟨_, rfl, t, _, _, _, rfl, rfl, SqT.of ht, atI_nat (j := 0) rfl, rfl, _, rfl, ifT (by decide +kernel) ?_⟩
        refine ⟨_, rfl, .inl ⟨rfl, _, SqL.of upd_same⟩, _, rfl, t, _, _, _, rfl, rfl, SqT.of ht, atI_nat (j := 1) rfl, s, _, _, rfl, rfl, upd_same, szl (by show 0 ≤ 100000; omega), ?_⟩
        exact hn _ _ ⟨rfl, by rw [upd_same]; rfl, fun b o e => by rw [upd_ne (ne_of_none e ns)]; exact e1 _ _ e⟩
      | forget p =>
        have ht := e1 _ _ (show H t = _ from hD)
        refine ⟨_, rfl, t, _, _, _, rfl, rfl, SqT.of ht, atI_nat (j := 0) rfl, rfl, _, rfl, ifF (by decide +kernel) ?_⟩
        exact hn _ _ ⟨rfl, upd_same, e1⟩
end
end Sk
end
section
/-! SwD6: the law's own wood: a value put. -/
namespace Sk
open PySem PySem.Spec PyProof.Rows L2 SW
theorem map_pt {β : Type} (p : SW.Fr → β) : ∀ (fs : Fs) (r : Int) (g : SW.Fr), (pt fs r g).map (fun q => (q.1, p q.2)) = pt (fs.map fun q => (q.1, p q.2)) r (p g)
  | [], _, _ => rfl
  | (j, a) :: l, r, g => by
    by_cases z : j = r
    · simp [pt, z]
    · simp only [pt, if_neg z, List.map_cons]
      rw [map_pt p l r g]
theorem onL_pt (fs : Fs) (r : Int) (g : SW.Fr) : onL (pt fs r g) = pt (onL fs) r g.below := map_pt (·.below) fs r g
theorem slL_pt (fs : Fs) (r : Int) (g : SW.Fr) : slL (pt fs r g) = pt (slL fs) r g.slots := map_pt (·.slots) fs r g
theorem onL_same {fs : Fs} (nd : (ks fs).Nodup) {r : Int} {f g : SW.Fr} (h : lk fs r = some f) (e : g.below = f.below) : onL (pt fs r g) = onL fs := pt_map (·.below) nd h e
theorem slL_same {fs : Fs} (nd : (ks fs).Nodup) {r : Int} {f g : SW.Fr} (h : lk fs r = some f) (e : g.slots = f.slots) : slL (pt fs r g) = slL fs := pt_map (·.slots) nd h e
theorem onL_want {fs : Fs} (nd : (ks fs).Nodup) (x : Option Int) : onL (wantF fs x) = onL fs := want_map (·.below) (fun _ _ => rfl) nd x
theorem slL_want {fs : Fs} (nd : (ks fs).Nodup) (x : Option Int) : slL (wantF fs x) = slL fs := want_map (·.slots) (fun _ _ => rfl) nd x
theorem repl_mk : ∀ {m : List (Int × Option Int)} {k : Int} (v : Option Int), (ks m).Nodup → k ∈ ks m → (mkV m).map (fun kv => if kv.1 = Sum.inl k then (kv.1, oV v) else kv) = mkV (pt m k v)
  | [], _, _, _, h => by simp [ks] at h
  | (j, a) :: l, k, v, nd, h => by
    obtain ⟨n1, n2⟩ := List.nodup_cons.mp (show (j :: ks l).Nodup from nd)
    by_cases z : j = k
    · subst z
      have e : (mkV l).map (fun kv => if kv.1 = Sum.inl j then (kv.1, oV v) else kv) = mkV l := by
        rw [List.map_congr_left (g := id), List.map_id]
        intro q hq
        obtain ⟨q0, hq0, rfl⟩ := List.mem_map.mp hq
        have : q0.1 ≠ j := fun z => n1 (List.mem_map.mpr ⟨q0, hq0, z⟩)
        simp [this]
      simp only [pt, if_pos]
      show (if (Sum.inl j : Key) = Sum.inl j then ((Sum.inl j : Key), oV v) else _) :: (mkV l).map _ = (Sum.inl j, oV v) :: mkV l
      rw [if_pos rfl, e]
    · simp only [pt, if_neg z]
      show (if (Sum.inl j : Key) = Sum.inl k then _ else ((Sum.inl j : Key), oV a)) :: (mkV l).map _ = (Sum.inl j, oV a) :: mkV (pt l k v)
      rw [if_neg (fun q => z (Sum.inl.inj q)), repl_mk v n2 ((List.mem_cons.mp (show k ∈ j :: ks l from h)).resolve_left fun w => z w.symm)]
theorem putK_mk_old {m : List (Int × Option Int)} {k : Int} (v : Option Int) (nd : (ks m).Nodup) (hk : k ∈ ks m) : putK (mkV m) (Sum.inl k) (oV v) = mkV (pt m k v) := by
  obtain ⟨u, hu⟩ := mem_ks.mp hk
  unfold putK
  rw [valV_any, valV_mk, hu, if_pos (by rfl)]
  exact repl_mk v nd hk
theorem mD_putMade (x : Mx) (r m n n' : Int) : putK (mD x r m n) (Sum.inr "made") (.int n') = mD x r m n' := by
  unfold putK
  rw [valV_any, mD_made, if_pos (by rfl)]
  unfold mD
  simp only [List.map_cons, List.map_nil, if_neg (key_ne (a := Str.ofString "rooms") (b := Str.ofString "made") (by decide +kernel)), if_neg (key_ne (a := Str.ofString "on") (b := Str.ofString "made") (by decide +kernel)), if_neg (key_ne (a := Str.ofString "slots") (b := Str.ofString "made") (by decide +kernel)), if_neg (key_ne (a := Str.ofString "tops") (b := Str.ofString "made") (by decide +kernel)), if_neg (key_ne (a := Str.ofString "marks") (b := Str.ofString "made") (by decide +kernel)), if_neg (key_ne (a := Str.ofString "many") (b := Str.ofString "made") (by decide +kernel)), if_pos]
/-- a room's list -/
theorem MA.setSl {B : Hp} {x : Mx} {M : Mw} (h : MA B x M) {r : Int} {v : List Int} (e : lk M.sl r = some v) (zs : List Int) : MA (upd B (x.so r) (.lst (zs.map V.int))) x { M with sl := pt M.sl r zs } := by
  have nt : ∀ {b kvs}, B b = some (.dK kvs) → upd B (x.so r) (.lst (zs.map V.int)) b = some (.dK kvs) := fun q => by rw [upd_ne (ne_of q (h.ss r v e) (by intro z; cases z))]; exact q
  have lkp : ∀ k u, lk (pt M.sl r zs) k = some u → ∃ u', lk M.sl k = some u' := fun k u q => by
    by_cases z : k = r
    · subst z; exact ⟨v, e⟩
    · rw [lk_pt_ne z] at q; exact ⟨u, q⟩
  refine ⟨nt h.wd, nt h.on, ?_, ?_, nt h.mks, fun k u q => ?_, fun k s u u' e1 e2 e3 => ?_, fun k u q => ?_, h.d1, h.d2, h.d3, h.d4, h.d5, h.d6⟩
  · have : slV x.so (pt M.sl r zs) = slV x.so M.sl := by
      have ek := ks_pt_old (v := zs) (mem_ks.mpr ⟨v, e⟩)
      have z : ∀ l : List (Int × List Int), slV x.so l = (ks l).map fun k => (Sum.inl k, V.ref (x.so k)) := fun l => by unfold slV ks; rw [List.map_map]; rfl
      rw [z, z, ek]
    show upd B (x.so r) _ x.sa = some (.dK (slV x.so (pt M.sl r zs)))
    rw [this]; exact nt h.sl
  · rw [upd_ne (h.st r v e).symm]; exact h.tp
  · have q : lk (pt M.sl r zs) k = some u := q
    by_cases z : k = r
    · subst z
      rw [lk_pt_same] at q; cases q; exact upd_same
    · rw [lk_pt_ne z] at q
      rw [upd_ne (fun w => z (h.si k r u v q e w))]; exact h.ss k u q
  · obtain ⟨_, a1⟩ := lkp k u e1
    obtain ⟨_, a2⟩ := lkp s u' e2
    exact h.si k s _ _ a1 a2 e3
  · obtain ⟨_, a1⟩ := lkp k u q
    exact h.st k _ a1
def spMPut : Sp := fun vs H Q _ => ∃ (B : Hp) (x : Mx) (W : Wd) (h d s v : Int), vs = [.ref x.w, .int h, .int d, .int s, .int v] ∧ Sub B H ∧ MA B x (mw W) ∧ WFW W ∧ hOk W h ∧ W.marks.length ≤ 10000 ∧
  match doPut W h d s v with
  | .error e => ∀ H', Same H H' → Q (.str (ern e)) H'
  | .ok (n, W') => ∀ B' x' H', x'.w = x.w → MA B' x' (mw W') → Stp B H B' H' → Q (.int n) H'
section
variable {P : Program} {w : World} {K : PySem.W.Frag} {mg : Str → Option Value} {base : Heap}
theorem ok_l_put (T : Txt K mg) : FnOk P w K mg base CX0 3 (aG K "_law_put") (fdOf K (aG K "_law_put")) ["_law_w", "_law_hand", "_law_depth", "_law_slot", "_law_value"] spMPut := by
  refine T.F_l_put.ok sc_l_put (fun vs H Q E h => ?_) (fun cdv A outer s H vs Q E hr h => ?_)
  · obtain ⟨_, _, _, _, _, _, _, rfl, _⟩ := h; rfl
  · obtain ⟨B, x, W, h, d, sl0, v, rfl, s0, R, F, hk, hm, k⟩ := h
    refine ⟨_, PSs.nox (pss_cons (ps_set (i := 5) sc_l_put.nd rfl (Or.inl rfl) (pe_call (ok_l_pile T) (hr.mono (by decide)) rfl T.g__law_pile T.F_l_pile.kp T.b_l_pile .nil pass0 (pa_cons (pv 0) (pa_cons (pe_ix (ix_listK K rfl) (pe_dget (hu_of hr) (pv 0) pe_str (fun _ _ => rfl)) (pv 1) (fun _ _ => rfl)) pa_nil)))) (pss_cons (ps_if (pt_not (pt_chain op_le op_lt pe_int (pv 2) (pe_callB (call_lenK K rfl) rfl T.n_len PySem.boot_len (pa_cons (pv 5) pa_nil)))) (pss_one (ps_ret pe_str)) pss_nil) (pss_cons (ps_if (pt_not (pt_chain op_le op_lt pe_int (pv 3) (pe_callB (call_lenK K rfl) rfl T.n_len PySem.boot_len (pa_cons (pe_dget (hu_of hr) (pe_dget (hu_of hr) (pv 0) pe_str (fun _ _ => rfl)) (pe_ix (ix_listK K rfl) (pv 5) (pv 2) (fun _ _ => rfl)) (fun _ _ => rfl)) pa_nil)))) (pss_one (ps_ret pe_str)) pss_nil) (pss_cons (ps_set (i := 6) sc_l_put.nd rfl (Or.inl rfl) (pe_call (ok_l_price T) (hr.mono (by decide)) rfl T.g__law_price T.F_l_price.kp T.b_l_price .nil pass0 (pa_cons (pv 0) (pa_cons (pe_slice (sl_listK K rfl) (pv 5) po_none (po_some (pe_op op_add (pv 2) pe_int))) pa_nil)))) (pss_cons (ps_if (pt_cmpR op_gt (pv 6) (pe_callB (call_lenK K rfl) rfl T.n_len PySem.boot_len (pa_cons (pe_call (ok_l_free T) (hr.mono (by decide)) rfl T.g__law_free T.F_l_free.kp T.b_l_free .nil pass0 (pa_cons (pv 0) pa_nil)) pa_nil)) (nomark _)) (pss_one (ps_ret pe_str)) pss_nil) (pss_cons (ps_set (i := 7) sc_l_put.nd rfl (Or.inl rfl) (pe_dget (hu_of hr) (pe_dget (hu_of hr) (pv 0) pe_str (fun _ _ => rfl)) (pe_ix (ix_listK K rfl) (pv 5) (pv 2) (fun _ _ => rfl)) (fun _ _ => rfl))) (pss_cons (ps_for PassesOwn.never rfl (pi_range3 rfl T.n_range (pa_cons (pv 2) (pa_cons (pe_op op_sub (pv 2) (pv 6)) (pa_cons (pe_un un_neg pe_int) pa_nil)))) (pg_name (i := 8) sc_l_put.nd rfl (Or.inl rfl)) (pss_cons (ps_set (i := 9) sc_l_put.nd rfl (Or.inl rfl) (pe_ix (ix_listK K rfl) (pe_call (ok_l_free T) (hr.mono (by decide)) rfl T.g__law_free T.F_l_free.kp T.b_l_free .nil pass0 (pa_cons (pv 0) pa_nil)) pe_int (fun _ _ => rfl))) (pss_cons (ps_dput (hu_of hr) (pe_dget (hu_of hr) (pv 0) pe_str (fun _ _ => rfl)) (pv 9) (pv 7) rfl) (pss_cons (ps_dput (hu_of hr) (pe_dget (hu_of hr) (pv 0) pe_str (fun _ _ => rfl)) (pv 9) (pe_callTy (call_listK K rfl) rfl T.n_list (by decide +kernel) (pa_cons (pe_dget (hu_of hr) (pe_dget (hu_of hr) (pv 0) pe_str (fun _ _ => rfl)) (pe_ix (ix_listK K rfl) (pv 5) (pv 8) (fun _ _ => rfl)) (fun _ _ => rfl)) pa_nil)) rfl) (pss_cons (ps_asg (pv 9) (pg_sub (pv 5) (pv 8) set_list)) (pss_one (ps_set (i := 7) sc_l_put.nd rfl (Or.inl rfl) (pv 9)))))))) (pss_cons (ps_if (pt_cmpR op_eq (pv 6) (pe_op op_add (pv 2) pe_int) (nomark _)) (pss_one (ps_asg (pe_ix (ix_listK K rfl) (pv 5) pe_int (fun _ _ => rfl)) (pg_sub (pe_dget (hu_of hr) (pv 0) pe_str (fun _ _ => rfl)) (pv 1) set_list))) (pss_one (ps_if (pt_cmpR op_gt (pv 6) pe_int (nomark _)) (pss_one (ps_dput (hu_of hr) (pe_dget (hu_of hr) (pv 0) pe_str (fun _ _ => rfl)) (pe_ix (ix_listK K rfl) (pv 5) (pe_op op_sub (pv 2) (pv 6)) (fun _ _ => rfl)) (pe_ix (ix_listK K rfl) (pv 5) (pe_op op_add (pe_op op_sub (pv 2) (pv 6)) pe_int) (fun _ _ => rfl)) rfl)) pss_nil))) (pss_cons (ps_asg (pv 4) (pg_sub (pe_dget (hu_of hr) (pe_dget (hu_of hr) (pv 0) pe_str (fun _ _ => rfl)) (pe_ix (ix_listK K rfl) (pv 5) (pv 2) (fun _ _ => rfl)) (fun _ _ => rfl)) (pv 3) set_list)) (pss_cons (ps_dput (hu_of hr) (pv 0) pe_str (pe_op op_add (pe_dget (hu_of hr) (pv 0) pe_str (fun _ _ => rfl)) (pv 6)) rfl) (pss_one (ps_ret (pv 6))))))))))))), ?_⟩
    have hw := s0 _ _ R.wd
    unfold doPut doWay at k
    rw [if_neg (fun z => z hk)] at k
    have pl := F.tpath h
    have copyf := fun (d i : Nat) (q : List Int) => copyF (W := W) F (h := h) (d := d) (i := i) (q := q) rfl
    obtain ⟨mp, ml⟩ := mpath F (t := top W h) (.inl (top_mem hk))
    refine ⟨_, rfl, _, rfl, x.w, _, rfl, g_tops hw, _, rfl, x.ta, _, _, _, rfl, rfl, SqL.of (s0 _ _ R.tp), atI_tops hk, B, x, mw W, top W h, path W.frames (top W h), rfl, s0, R, mp, by omega, fun p np => ?_⟩
    have e1 := same_new np (.lst ((path W.frames (top W h)).map V.int))
    have pB := off_new s0 np
    generalize el : path W.frames (top W h) = l at *
    have S1 := (Stp.refl s0).same e1
    have hp1 : upd H p (.lst (l.map V.int)) p = some _ := upd_same
    generalize upd H p (.lst (l.map V.int)) = H1 at e1 S1 hp1
    refine ⟨_, rfl, _, _, rfl, rfl, _, rfl, ?_⟩
    by_cases d0 : ¬ 0 ≤ d
    · rw [decide_eq_false d0]
      rw [if_pos (fun z => d0 z.1)] at k
      exact iteF ⟨_, rfl, iteT (k _ e1)⟩
    have d0 : 0 ≤ d := Decidable.not_not.mp d0
    rw [decide_eq_true d0]
    refine iteT ⟨_, rfl, p, _, rfl, .inl (SqL.of hp1), _, _, rfl, rfl, _, rfl, ?_⟩
    rw [List.length_map]
    by_cases dl : ¬ d < (l.length : Int)
    · rw [decide_eq_false dl]
      rw [if_pos (fun z => dl z.2)] at k
      exact iteT (k _ e1)
    have dl : d < (l.length : Int) := Decidable.not_not.mp dl
    rw [decide_eq_true dl]
    rw [if_neg (fun z => z ⟨d0, dl⟩)] at k
    refine iteF ?_
    generalize eq0 : l.take (d.toNat + 1) = qs at k
    have hql : qs.length = d.toNat + 1 := by rw [← eq0, List.length_take]; omega
    have hqin : ∀ r ∈ qs, ∃ f, lk W.frames r = some f := fun r hr => pl.in r (by rw [← eq0] at hr; exact List.mem_of_mem_take hr)
    have dn : d.toNat < l.length := by omega
    have rD : l[d.toNat]? = some (qs.getD d.toNat 0) := by
      rw [List.getD_eq_getElem?_getD, ← eq0, List.getElem?_take_of_lt (by omega), List.getElem?_eq_getElem dn]; rfl
    have aD : atI (l.map V.int) d = some (V.int (qs.getD d.toNat 0)) := by
      have : d = ((d.toNat : Nat) : Int) := by omega
      rw [this]
      exact atI_nat (by rw [List.getElem?_map, show ((d.toNat : Nat) : Int).toNat = d.toNat by omega, rD]; rfl)
    obtain ⟨fD, hfD⟩ := pl.in _ (List.mem_of_getElem? rD)
    have eslD : sl W.frames (qs.getD d.toNat 0) = fD.slots := sl_of hfD
    dsimp only at k
    rw [eslD] at k
    have lsl : lk (slL W.frames) (qs.getD d.toNat 0) = some fD.slots := by rw [lk_slL, hfD]; rfl
    have lon : lk (onL W.frames) (qs.getD d.toNat 0) = some fD.below := by rw [lk_onL, hfD]; rfl
    have gsl : DGet H1 x.sa (V.int (qs.getD d.toNat 0)) (some (.ref (x.so (qs.getD d.toNat 0)))) := by
      have := DGet.k (k := Sum.inl (qs.getD d.toNat 0)) (S1.own _ _ R.sl)
      rw [valV_sl] at this
      rw [show lk (mw W).sl (qs.getD d.toNat 0) = some fD.slots from lsl] at this; exact this
    have gon : ∀ {H' : Hp}, H' x.oa = some (.dK (mkV (mw W).on)) → DGet H' x.oa (V.int (qs.getD d.toNat 0)) (some (oV fD.below)) := fun e => by
      have := DGet.k (k := Sum.inl (qs.getD d.toNat 0)) e
      rw [valV_mk] at this
      rw [show lk (mw W).on (qs.getD d.toNat 0) = some fD.below from lon] at this; exact this
    have hslD := R.ss _ _ lsl
    -- the slot
    refine ⟨_, rfl, _, _, rfl, rfl, _, rfl, ?_⟩
    by_cases c0 : ¬ 0 ≤ sl0
    · rw [decide_eq_false c0]
      rw [if_pos (fun z => c0 z.1)] at k
      exact iteF ⟨_, rfl, iteT (k _ e1)⟩
    have c0 : 0 ≤ sl0 := Decidable.not_not.mp c0
    rw [decide_eq_true c0]
    refine iteT ⟨_, rfl, x.w, _, rfl, g_slots (S1.own _ _ R.wd), _, rfl, _, rfl, p, _, _, _, rfl, rfl, SqL.of hp1, aD, x.sa, _, rfl, gsl, x.so (qs.getD d.toNat 0), _, rfl, .inl (SqL.of (S1.own _ _ hslD)), _, _, rfl, rfl, _, rfl, ?_⟩
    rw [List.length_map]
    by_cases cl : ¬ sl0 < (fD.slots.length : Int)
    · rw [decide_eq_false cl]
      rw [if_pos (fun z => cl z.2)] at k
      exact iteT (k _ e1)
    have cl : sl0 < (fD.slots.length : Int) := Decidable.not_not.mp cl
    rw [decide_eq_true cl]
    rw [if_neg (fun z => z ⟨c0, cl⟩)] at k
    refine iteF ?_
    -- the price
    refine ⟨_, rfl, _, rfl, _, rfl, _, _, rfl, rfl, _, rfl, p, _, rfl, SqL.of hp1, fun q nq => ?_⟩
    rw [taken (W := W) (h := h) d0 dl, eq0]
    have e2 := same_new nq (.lst (qs.map V.int))
    refine ⟨B, x, W, q, qs, rfl, fun b o e => e2 _ _ (S1.own _ _ e), R, F, hm, SqL.of upd_same, hqin, by omega, fun H3 e3 => ?_⟩
    have e23 := e2.trans e3
    have e13 := e1.trans e23
    have S3 := S1.same e23
    have hp3 := e23 _ _ hp1
    clear e2 e3 e23 nq S1 gsl hp1 e1
    generalize hn : priceO qs.length (sh W.frames qs).head? = nn
    have fl := freeR_len (by have := F.r1; omega) F.wf.nd F.rng
    refine ⟨_, rfl, _, rfl, B, x, mw W, rfl, S3.own, R, ⟨F.r1, F.r40⟩, fun p2 np2 => ⟨p2, _, rfl, .inl (SqL.of upd_same), _, _, rfl, rfl, _, rfl, ?_⟩⟩
    rw [free_mw, List.length_map]
    have e4 := same_new np2 (.lst ((freeR W.rooms W.frames).map V.int))
    have e14 := e13.trans e4
    have S4 := S3.same e4
    have hp4 := e4 _ _ hp3
    generalize upd H3 p2 (.lst ((freeR W.rooms W.frames).map V.int)) = H4 at e14 S4 hp4
    clear e4 e13 S3 hp3 np2
    cases eo : (sh W.frames qs).head? with
    | none =>
      rw [eo] at k hn
      dsimp only at k
      have hn : (0 : Int) = nn := hn
      subst hn
      refine ifF (decide_eq_false (by omega)) ?_
      refine ⟨_, rfl, x.w, _, rfl, g_on (S4.own _ _ R.wd), _, rfl, _, rfl, p, _, _, _, rfl, rfl, SqL.of hp4, aD, x.oa, _, rfl, gon (S4.own _ _ R.on), ?_⟩
      refine ⟨_, rfl, _, rfl, _, rfl, _, _, rfl, rfl, _, rfl, d, d - 0, -1, _, rfl, RgC.neg (by omega) (by omega) (by omega) (by omega), ?_⟩
      refine for_rangeC (lo := d) (c := -1) (n := (d - (d - 0)).toNat) (fun _ σ H' => σ = [some (.ref x.w), some (.int h), some (.int d), some (.int sl0), some (.int v), some (.ref p), some (.int 0), some (oV fD.below), none, none] ∧ H' = H4) ⟨rfl, rfl⟩ (fun i σ H hi => absurd hi (by omega)) ?_
      rintro σ H' ⟨rfl, rfl⟩
      with_reducible refine if_split (fun σ H' => ∃ (u7 u8 u9 : Option V) (B' : Hp) (x' : Mx) (fs : Fs) (ts : List (Option Int)) (pl' : List Int) (r0 : Int) (f0 : SW.Fr), σ = [some (.ref x.w), some (.int h), some (.int d), some (.int sl0), some (.int v), some (.ref p), some (.int 0), u7, u8, u9] ∧ x'.w = x.w ∧ MA B' x' (mw { W with frames := fs, tops := ts }) ∧ Stp B H B' H' ∧ (ks fs).Nodup ∧ H' p = some (.lst (pl'.map V.int)) ∧ atI (pl'.map V.int) d = some (V.int r0) ∧ lk fs r0 = some f0 ∧ f0.slots.length = fD.slots.length ∧
        ∀ B2 x2 H2, x2.w = x.w → MA B2 x2 (mw { W with frames := setSlot fs r0 sl0 v, tops := ts, made := W.made + 0 }) → Stp B H B2 H2 → Q (.int 0) H2) (fun σ H' hI => ?_) (fun nx' hn' => ?_)
      · clear S4 hp4 e14
        obtain ⟨u7, u8, u9, B', x', fs, ts, pl', r0, f0, rfl, xw, R', S', ndf, hp', a0, hf0, ef0, kk⟩ := hI
        have ls0 : lk (slL fs) r0 = some f0.slots := by rw [lk_slL, hf0]; rfl
        have g0 : DGet H' x'.sa (V.int r0) (some (.ref (x'.so r0))) := by
          have := DGet.k (k := Sum.inl r0) (S'.own _ _ R'.sl)
          rw [valV_sl] at this
          rw [show lk (mw { W with frames := fs, tops := ts }).sl r0 = some f0.slots from ls0] at this; exact this
        refine ⟨_, rfl, _, rfl, x.w, _, rfl, (by have := g_slots (S'.own _ _ R'.wd); rw [xw] at this; exact this), _, rfl, _, rfl, p, _, _, _, rfl, rfl, SqL.of hp', a0, x'.sa, _, rfl, g0, _, rfl, x'.so r0, _, sl0, sl0.toNat, rfl, rfl, S'.own _ _ (R'.ss _ _ ls0), by rw [List.length_map, ef0]; exact ixN_ok c0 cl, ?_⟩
        have R5 := R'.setSl ls0 (f0.slots.set sl0.toNat v)
        have S5 := S'.upd (R'.ss _ _ ls0) (.lst ((f0.slots.set sl0.toNat v).map V.int))
        rw [List.map_set] at R5 S5
        generalize upd B' (x'.so r0) (.lst ((f0.slots.map V.int).set sl0.toNat (V.int v))) = B5 at R5 S5
        generalize upd H' (x'.so r0) (.lst ((f0.slots.map V.int).set sl0.toNat (V.int v))) = H5 at S5
        have hw5 := S5.own _ _ R5.wd
        have gm5 := g_made hw5
        rw [xw] at hw5 gm5
        refine ⟨_, rfl, x.w, _, rfl, gm5, _, rfl, _, _, rfl, rfl, _, rfl, x.w, _, rfl, DPut.k (k := Sum.inr (Str.ofString "made")) hw5 (szl (by show 7 ≤ 100000; omega)), ?_⟩
        rw [mD_putMade]
        refine ⟨_, rfl, ?_⟩
        have R6 := R5.setNums W.many (W.made + 0)
        have S6 := S5.upd R5.wd (.dK (mD x' W.rooms W.many (W.made + 0)))
        rw [xw] at S6
        have em : mw { W with frames := setSlot fs r0 sl0 v, tops := ts, made := W.made + 0 } = { { mw { W with frames := fs, tops := ts } with sl := pt (slL fs) r0 (f0.slots.set sl0.toNat v) } with many := W.many, made := W.made + 0 } := by
          have e : setSlot fs r0 sl0 v = pt fs r0 { f0 with slots := f0.slots.set sl0.toNat v } := by unfold setSlot; rw [hf0]
          unfold mw
          simp only
          have eon : onL (pt fs r0 { f0 with slots := f0.slots.set sl0.toNat v }) = onL fs := onL_same ndf hf0 rfl
          rw [e, slL_pt, eon]
        refine kk _ x' _ xw ?_ S6
        rw [em]
        rw [xw] at R6
        exact R6
      · refine ⟨_, rfl, _, rfl, _, _, rfl, rfl, rfl, _, rfl, ifF (decide_eq_false fun z => by have := V.int.inj z; omega) ?_⟩
        refine ⟨_, rfl, _, _, rfl, rfl, _, rfl, ifF (by decide) ?_⟩
        exact hn' _ _ ⟨_, _, _, B, x, W.frames, W.tops, l, qs.getD d.toNat 0, fD, rfl, rfl, R, S4, F.wf.nd, hp4, aD, hfD, rfl, fun B2 x2 H2 z1 z2 z3 => k B2 x2 H2 z1 (by rw [Int.add_zero] at z2; exact z2) z3⟩
    | some i =>
      rw [eo] at k hn
      dsimp only at k
      have hn : (qs.length : Int) - (i : Int) = nn := hn
      have hn : nn = d - i + 1 := by omega
      obtain ⟨si, sn, slt⟩ := sh_some eo
      by_cases cr : W.rooms < (W.frames.length : Int) + (d - i + 1)
      · rw [if_pos cr] at k
        refine ifT (decide_eq_true (by omega)) ?_
        exact k _ e14
      rw [if_neg cr] at k
      refine ifF (decide_eq_false (by omega)) ?_
      obtain ⟨b, ⟨ebl, ⟨fd, hfd, hfb⟩, hbin, cop, croom, cold, ⟨gi, hgi, ngi⟩, cup⟩⟩ := copyf d.toNat i qs dn eq0 eo (by omega)
      have eb : fD.below = b := by
        have : qs.length - 1 = d.toNat := by omega
        rw [this, hfD] at hfd
        rw [← hfb, Option.some.inj hfd]
      rw [eb] at gon
      refine ⟨_, rfl, x.w, _, rfl, g_on (S4.own _ _ R.wd), _, rfl, _, rfl, p, _, _, _, rfl, rfl, SqL.of hp4, aD, x.oa, _, rfl, gon (S4.own _ _ R.on), ?_⟩
      refine ⟨_, rfl, _, rfl, _, rfl, _, _, rfl, rfl, _, rfl, d, d - nn, -1, _, rfl, RgC.neg (by omega) (by omega) (by omega) (by omega), ?_⟩
      have olen : (qs.drop i).reverse.length = d.toNat + 1 - i := by rw [List.length_reverse, List.length_drop]; omega
      have eN : (d - (d - nn)).toNat = (qs.drop i).reverse.length := by omega
      rw [eN]
      have onw := onL_want F.wf.nd b
      have slw := slL_want F.wf.nd b
      have emw : mw { W with frames := wantF W.frames b } = mw W := by unfold mw; simp only; rw [onw, slw]
      refine for_rangeC (lo := d) (c := -1) (n := (qs.drop i).reverse.length) (fun j σ H' => ∃ (B' : Hp) (x' : Mx) (u8 u9 : Option V), σ = [some (.ref x.w), some (.int h), some (.int d), some (.int sl0), some (.int v), some (.ref p), some (.int nn), some (oV (copyL W.rooms (wantF W.frames b) b ((qs.drop i).reverse.take j)).2.1), u8, u9] ∧ x'.w = x.w ∧
          MA B' x' (mw { W with frames := (copyL W.rooms (wantF W.frames b) b ((qs.drop i).reverse.take j)).1 }) ∧ Stp B H B' H' ∧ B' p = none ∧ H' p = some (.lst ((l.take (d.toNat + 1 - j) ++ (copyL W.rooms (wantF W.frames b) b ((qs.drop i).reverse.take j)).2.2.reverse ++ l.drop (d.toNat + 1)).map V.int)) ∧
          (j = 0 ∨ ∃ rr rest, (copyL W.rooms (wantF W.frames b) b ((qs.drop i).reverse.take j)).2.1 = some rr ∧ (copyL W.rooms (wantF W.frames b) b ((qs.drop i).reverse.take j)).2.2.reverse = rr :: rest))
        ⟨B, x, none, none, rfl, rfl, by rw [show mw { W with frames := (copyL W.rooms (wantF W.frames b) b ((qs.drop i).reverse.take 0)).1 } = mw W from emw]; exact R, S4, pB, by
          rw [hp4]
          show some (HO.lst (l.map V.int)) = some (.lst ((l.take (d.toNat + 1) ++ [] ++ l.drop (d.toNat + 1)).map V.int))
          rw [List.append_nil, List.take_append_drop], .inl rfl⟩ ?_ ?_
      · rintro j σ H' hj ⟨B', x', u8, u9, rfl, xw, R', S', pB', hp', _⟩
        obtain ⟨o, ho⟩ : ∃ o, (qs.drop i).reverse[j]? = some o := ⟨_, List.getElem?_eq_getElem hj⟩
        have loj : l[d.toNat - j]? = some o := by
          rw [List.getElem?_reverse (by rw [List.length_drop]; omega), List.length_drop, List.getElem?_drop] at ho
          rw [show i + (qs.length - i - 1 - j) = d.toNat - j by omega, ← eq0, List.getElem?_take_of_lt (by omega)] at ho
          exact ho
        have esn : (qs.drop i).reverse.take (j + 1) = (qs.drop i).reverse.take j ++ [o] := take_snocC ho
        have ecs := copyL_snoc W.rooms o ((qs.drop i).reverse.take j) (wantF W.frames b) b
        rw [← esn] at ecs
        have C := cop j
        have rm := croom j hj
        obtain ⟨fo, hfo⟩ := cold j o ho
        have clen := C.len
        rw [List.length_take] at clen
        generalize copyL W.rooms (wantF W.frames b) b ((qs.drop i).reverse.take j) = t at R' hp' ecs C rm hfo clen
        obtain ⟨fs, bb, rs⟩ := t
        simp only at R' hp' ecs C rm hfo clen
        have rng : ∀ r ∈ ks fs, 1 ≤ r ∧ r ≤ W.rooms := fun r hr => by
          have := C.keys
          simp only at this
          rw [this, ks_want] at hr
          rcases List.mem_append.mp hr with z | z
          · exact F.rng r z
          · exact C.rng r z
        have nin := newRoom_in C.wf.nd rng rm
        obtain ⟨_, nn0⟩ := mem_freeR.mp nin
        have fl40 : fs.length ≤ 40 := by have := F.r40; omega
        obtain ⟨fr, efr⟩ : ∃ fr, freeR W.rooms fs = newRoom W.rooms fs :: fr := by
          cases e : freeR W.rooms fs with
          | nil => rw [e] at nin; simp at nin
          | cons r fr => exact ⟨fr, by unfold newRoom; rw [e]; rfl⟩
        refine ⟨_, rfl, B', x', mw { W with frames := fs }, by rw [xw]; rfl, S'.own, R', ⟨F.r1, F.r40⟩, fun p3 np3 => ?_⟩
        rw [free_mw { W with frames := fs }]
        show _
        have efr' : freeR ({ W with frames := fs } : Wd).rooms ({ W with frames := fs } : Wd).frames = newRoom W.rooms fs :: fr := efr
        rw [efr']
        generalize newRoom W.rooms fs = r at nn0 ecs nin efr efr'
        refine ⟨p3, _, _, _, rfl, rfl, SqL.of upd_same, atI_nat (j := 0) rfl, ?_⟩
        have S5 := S'.same (same_new np3 (.lst ((r :: fr).map V.int)))
        have hp5 := same_new np3 (.lst ((r :: fr).map V.int)) _ _ hp'
        generalize upd H' p3 (.lst ((r :: fr).map V.int)) = H5 at S5 hp5
        -- on[room] = below
        have hw5 := S5.own _ _ R'.wd
        have go5 := g_on hw5
        rw [xw] at go5
        refine ⟨_, rfl, _, rfl, x.w, _, rfl, go5, _, rfl, x'.oa, _, rfl, DPut.k (k := Sum.inl r) (S5.own _ _ R'.on) (szl (by rw [mkV_len]; show (onL fs).length ≤ 100000; unfold onL; rw [List.length_map]; omega)), ?_⟩
        have non : lk (onL fs) r = none := by rw [lk_onL, nn0]; rfl
        have eput : putK (mkV (mw { W with frames := fs }).on) (Sum.inl r) (oV bb) = mkV (onL fs ++ [(r, bb)]) := by
          rw [← pt_new non]; exact putK_mk _ non
        rw [eput]
        have R6 := R'.setOn (onL fs ++ [(r, bb)])
        have S6 := S5.upd R'.on (.dK (mkV (onL fs ++ [(r, bb)])))
        have pB6 : upd B' x'.oa (.dK (mkV (onL fs ++ [(r, bb)]))) p = none := by rw [upd_ne (fun z => by rw [z, R'.on] at pB'; cases pB')]; exact pB'
        have hp6 := (upd_ne (fun z => by rw [z, R'.on] at pB'; cases pB') (H := H5) (o := .dK (mkV (onL fs ++ [(r, bb)])))).trans hp5
        generalize upd B' x'.oa (.dK (mkV (onL fs ++ [(r, bb)]))) = B6 at R6 S6 pB6
        generalize upd H5 x'.oa (.dK (mkV (onL fs ++ [(r, bb)]))) = H6 at S6 hp6
        -- slots[room] = list(slots[pile[at]])
        have lmid : l.take (d.toNat + 1 - j) = l.take (d.toNat - j) ++ [o] := by
          rw [show d.toNat + 1 - j = d.toNat - j + 1 by omega]; exact take_snocC loj
        have ltk : (l.take (d.toNat - j)).length = d.toNat - j := by rw [List.length_take]; omega
        have eat : d + ((j : Nat) : Int) * -1 = ((d.toNat - j : Nat) : Int) := by omega
        have aO : atI ((l.take (d.toNat + 1 - j) ++ rs.reverse ++ l.drop (d.toNat + 1)).map V.int) (d + ((j : Nat) : Int) * -1) = some (V.int o) := by
          rw [eat]
          refine atI_nat ?_
          rw [List.getElem?_map, lmid, List.append_assoc, List.append_assoc, List.getElem?_append_right (by omega), ltk, Nat.sub_self]; rfl
        have ls5 : lk (slL fs) o = some fo.slots := by rw [lk_slL, hfo]; rfl
        have gs6 : DGet H6 x'.sa (V.int o) (some (.ref (x'.so o))) := by
          have := DGet.k (k := Sum.inl o) (S6.own _ _ R6.sl)
          rw [valV_sl] at this
          rw [show lk (mw { W with frames := fs }).sl o = some fo.slots from ls5] at this; exact this
        have gsl6 := g_slots (S6.own _ _ R6.wd)
        rw [xw] at gsl6
        refine ⟨_, rfl, x.w, _, rfl, gsl6, _, rfl, _, rfl, p, _, _, _, rfl, rfl, SqL.of hp6, aO, x'.sa, _, rfl, gs6, x'.so o, _, rfl, .inl (SqL.of (S6.own _ _ (R6.ss _ _ ls5))), fun l3 nl3 => ?_⟩
        have S7 := S6.new' nl3 (.lst (fo.slots.map V.int))
        have nlB := S6.free nl3
        have upB : ∀ {b : Addr} {o : HO}, B6 b = some o → upd B6 l3 (.lst (fo.slots.map V.int)) b = some o := fun e => (upd_ne (ne_of_none e nlB)).trans e
        have gsl7 := g_slots (S7.own _ _ (upB R6.wd))
        rw [xw] at gsl7
        refine ⟨_, rfl, x.w, _, rfl, gsl7, _, rfl, x'.sa, _, rfl, DPut.k (k := Sum.inl r) (S7.own _ _ (upB R6.sl)) (szl (by unfold slV; rw [List.length_map]; show (slL fs).length ≤ 100000; unfold slL; rw [List.length_map]; omega)), ?_⟩
        have nsl : lk (slL fs) r = none := by rw [lk_slL, nn0]; rfl
        have R8 := R6.addSl (v := fo.slots) nsl nlB
        have S8 := S7.upd (upB R6.sl) (.dK (putK (slV x'.so (slL fs)) (Sum.inl r) (.ref l3)))
        have npl : p ≠ l3 := ne_of_none hp6 nl3
        have nps : p ≠ x'.sa := fun z => by rw [z, R6.sl] at pB6; cases pB6
        have pB8 := (upd_ne nps (H := upd B6 l3 (.lst (fo.slots.map V.int))) (o := .dK (putK (slV x'.so (slL fs)) (Sum.inl r) (.ref l3)))).trans ((upd_ne npl (o := .lst (fo.slots.map V.int))).trans pB6)
        have hp8 := (upd_ne nps (H := upd H6 l3 (.lst (fo.slots.map V.int))) (o := .dK (putK (slV x'.so (slL fs)) (Sum.inl r) (.ref l3)))).trans ((upd_ne npl (o := .lst (fo.slots.map V.int))).trans hp6)
        -- pile[at] = room
        refine ⟨_, rfl, _, rfl, _, rfl, p, _, _, (d + ((j : Nat) : Int) * -1).toNat, rfl, rfl, hp8, by rw [List.length_map]; exact ixN_ok (by omega) (by rw [List.length_append, List.length_append, lmid, List.length_append, ltk, List.length_cons]; omega), ?_⟩
        refine ⟨_, rfl, ?_⟩
        have esl : sl fs o = fo.slots := sl_of hfo
        rw [esl] at ecs
        rw [ecs]
        have a12 := mw_new (W := { W with frames := fs }) (f := ⟨bb, fo.slots, 1⟩) nn0
        refine ⟨_, { x' with so := fun k => if k = r then l3 else x'.so k }, _, _, rfl, xw, ?_, S8.gars np pB8 _, pB8, ?_, .inr ⟨r, rs.reverse, rfl, by simp⟩⟩
        · have : mw { W with frames := pt fs r ⟨bb, fo.slots, 1⟩ } = { { mw { W with frames := fs } with on := onL fs ++ [(r, bb)] } with sl := slL fs ++ [(r, fo.slots)] } := by
            unfold mw
            simp only
            rw [a12.1, a12.2]
          show MA _ _ (mw { W with frames := pt fs r ⟨bb, fo.slots, 1⟩ })
          rw [this]; exact R8
        · rw [upd_same, eat, show ((d.toNat - j : Nat) : Int).toNat = d.toNat - j by omega]
          congr 2
          rw [← List.map_set]
          congr 1
          rw [lmid, List.append_assoc, List.append_assoc, List.set_append_right _ _ (by omega), ltk, Nat.sub_self]
          rw [show d.toNat + 1 - (j + 1) = d.toNat - j by omega]
          simp
      · rintro σ H' ⟨B', x', u8, u9, rfl, xw, R', S', pB', hp', hd⟩
        rw [List.take_length] at R' hp' hd ⊢
        have Cf := cop (qs.drop i).reverse.length
        rw [List.take_length] at Cf
        have clen := Cf.len
        clear cop croom cold
        generalize et : copyL W.rooms (wantF W.frames b) b (qs.drop i).reverse = t at R' hp' hd Cf clen hgi cup ⊢
        obtain ⟨fs, bb, rs⟩ := t
        simp only at R' hp' hd Cf clen hgi cup ⊢
        obtain ⟨rr, rest, rfl, erev⟩ : ∃ rr rest, bb = some rr ∧ rs.reverse = rr :: rest := by
          rcases hd with z | z
          · omega
          · exact z
        have rl : (rs.length : Int) = nn := by omega
        rw [show d.toNat + 1 - (qs.drop i).reverse.length = i by omega] at hp'
        have ec : copied W h qs i = (rs.headD 0, if i = 0 then { W with frames := leave fs (some (qs.getD i 0)), tops := W.tops.set h.toNat (some rr), made := W.made + (rs.length : Int) } else { W with frames := setBelow (leave fs (some (qs.getD i 0))) (qs.getD (i - 1) 0) (some rr), made := W.made + (rs.length : Int) }) := by
          simp only [copied, ebl, et]
        rw [ec] at k
        have eo0 : (qs.drop i).reverse[0]? = some (qs.getD d.toNat 0) := by
          rw [List.getElem?_reverse (by rw [List.length_drop]; omega), List.length_drop, List.getElem?_drop, show i + (qs.length - i - 1 - 0) = d.toNat by omega, List.getD_eq_getElem?_getD, List.getElem?_eq_getElem (by omega)]; rfl
        obtain ⟨r0, rs', ers⟩ : ∃ r0 rs', rs = r0 :: rs' := by
          cases rs with
          | nil => simp at erev
          | cons a l => exact ⟨a, l, rfl⟩
        have eh : rs.headD 0 = r0 := by rw [ers]; rfl
        rw [eh] at k
        have r0m : r0 ∈ ks fs := by rw [Cf.keys, ers]; simp
        have esl0 : sl fs r0 = fD.slots := by
          have z := congrArg (fun l => l[0]?) Cf.slots
          simp only [List.getElem?_map] at z
          rw [eo0, ers] at z
          have z : sl fs r0 = sl (wantF W.frames b) (qs.getD d.toNat 0) := Option.some.inj z
          rw [z]
          have z2 : lk (slL (wantF W.frames b)) (qs.getD d.toNat 0) = some fD.slots := by rw [slw]; exact lsl
          rw [lk_slL] at z2
          unfold sl
          cases z3 : lk (wantF W.frames b) (qs.getD d.toNat 0) with
          | none => rw [z3] at z2; cases z2
          | some g => rw [z3] at z2; exact Option.some.inj z2
        have el3 : leave fs (some (qs.getD i 0)) = pt fs (qs.getD i 0) { gi with needs := gi.needs - 1 } := leave_more hgi ngi
        have on3 : onL (leave fs (some (qs.getD i 0))) = onL fs := by rw [el3]; exact onL_same Cf.wf.nd hgi rfl
        have sl3 : slL (leave fs (some (qs.getD i 0))) = slL fs := by rw [el3]; exact slL_same Cf.wf.nd hgi rfl
        have nd3 : (ks (leave fs (some (qs.getD i 0)))).Nodup := by rw [el3]; exact nd_pt Cf.wf.nd
        generalize leave fs (some (qs.getD i 0)) = fs3 at on3 sl3 nd3 cup k
        have lsf : lk (slL fs) r0 = some fD.slots := by
          obtain ⟨g, hg⟩ := mem_ks.mp r0m
          rw [lk_slL, hg]
          rw [sl_of hg] at esl0
          rw [← esl0]; rfl
        have lsx : ∀ {gs : Fs}, slL gs = slL fs → ∃ f0, lk gs r0 = some f0 ∧ f0.slots = fD.slots := fun {gs} e => by
          have z : lk (slL gs) r0 = some fD.slots := by rw [e]; exact lsf
          rw [lk_slL] at z
          cases z2 : lk gs r0 with
          | none => rw [z2] at z; cases z
          | some g => rw [z2] at z; exact ⟨g, rfl, Option.some.inj z⟩
        have lti : (l.take i).length = i := by rw [List.length_take]; omega
        have lrs : rs.reverse.length = d.toNat + 1 - i := by rw [List.length_reverse]; omega
        have aD2 : atI ((l.take i ++ rs.reverse ++ l.drop (d.toNat + 1)).map V.int) d = some (V.int r0) := by
          have : d = ((d.toNat : Nat) : Int) := by omega
          rw [this]
          refine atI_nat ?_
          rw [show ((d.toNat : Nat) : Int).toNat = d.toNat by omega, List.getElem?_map, List.append_assoc, List.getElem?_append_right (by omega), List.getElem?_append_left (by omega), List.getElem?_reverse (by omega), lti, show rs.length - 1 - (d.toNat - i) = 0 by omega, ers]; rfl
        have aI : atI ((l.take i ++ rs.reverse ++ l.drop (d.toNat + 1)).map V.int) (i : Int) = some (V.int rr) := by
          refine atI_nat ?_
          rw [List.getElem?_map, List.append_assoc, List.getElem?_append_right (by omega), lti, Nat.sub_self, erev]; rfl
        generalize el2 : l.take i ++ rs.reverse ++ l.drop (d.toNat + 1) = pl2 at hp' aD2 aI
        with_reducible refine if_split (fun σ H' => ∃ (u7 u8 u9 : Option V) (B' : Hp) (x' : Mx) (fs : Fs) (ts : List (Option Int)) (pl' : List Int) (r0 : Int) (f0 : SW.Fr), σ = [some (.ref x.w), some (.int h), some (.int d), some (.int sl0), some (.int v), some (.ref p), some (.int nn), u7, u8, u9] ∧ x'.w = x.w ∧ MA B' x' (mw { W with frames := fs, tops := ts }) ∧ Stp B H B' H' ∧ (ks fs).Nodup ∧ H' p = some (.lst (pl'.map V.int)) ∧ atI (pl'.map V.int) d = some (V.int r0) ∧ lk fs r0 = some f0 ∧ f0.slots.length = fD.slots.length ∧
        ∀ B2 x2 H2, x2.w = x.w → MA B2 x2 (mw { W with frames := setSlot fs r0 sl0 v, tops := ts, made := W.made + nn }) → Stp B H B2 H2 → Q (.int nn) H2) (fun σ H' hI => ?_) (fun nx' hn' => ?_)
        · clear S' hp' R' pB' S4 hp4 e14
          obtain ⟨u7, u8, u9, B', x', fs, ts, pl', r0, f0, rfl, xw, R', S', ndf, hp', a0, hf0, ef0, kk⟩ := hI
          have ls0 : lk (slL fs) r0 = some f0.slots := by rw [lk_slL, hf0]; rfl
          have g0 : DGet H' x'.sa (V.int r0) (some (.ref (x'.so r0))) := by
            have := DGet.k (k := Sum.inl r0) (S'.own _ _ R'.sl)
            rw [valV_sl] at this
            rw [show lk (mw { W with frames := fs, tops := ts }).sl r0 = some f0.slots from ls0] at this; exact this
          refine ⟨_, rfl, _, rfl, x.w, _, rfl, (by have := g_slots (S'.own _ _ R'.wd); rw [xw] at this; exact this), _, rfl, _, rfl, p, _, _, _, rfl, rfl, SqL.of hp', a0, x'.sa, _, rfl, g0, _, rfl, x'.so r0, _, sl0, sl0.toNat, rfl, rfl, S'.own _ _ (R'.ss _ _ ls0), by rw [List.length_map, ef0]; exact ixN_ok c0 cl, ?_⟩
          have R5 := R'.setSl ls0 (f0.slots.set sl0.toNat v)
          have S5 := S'.upd (R'.ss _ _ ls0) (.lst ((f0.slots.set sl0.toNat v).map V.int))
          rw [List.map_set] at R5 S5
          generalize upd B' (x'.so r0) (.lst ((f0.slots.map V.int).set sl0.toNat (V.int v))) = B5 at R5 S5
          generalize upd H' (x'.so r0) (.lst ((f0.slots.map V.int).set sl0.toNat (V.int v))) = H5 at S5
          have hw5 := S5.own _ _ R5.wd
          have gm5 := g_made hw5
          rw [xw] at hw5 gm5
          refine ⟨_, rfl, x.w, _, rfl, gm5, _, rfl, _, _, rfl, rfl, _, rfl, x.w, _, rfl, DPut.k (k := Sum.inr (Str.ofString "made")) hw5 (szl (by show 7 ≤ 100000; omega)), ?_⟩
          rw [mD_putMade]
          refine ⟨_, rfl, ?_⟩
          have R6 := R5.setNums W.many (W.made + nn)
          have S6 := S5.upd R5.wd (.dK (mD x' W.rooms W.many (W.made + nn)))
          rw [xw] at S6
          have em : mw { W with frames := setSlot fs r0 sl0 v, tops := ts, made := W.made + nn } = { { mw { W with frames := fs, tops := ts } with sl := pt (slL fs) r0 (f0.slots.set sl0.toNat v) } with many := W.many, made := W.made + nn } := by
            have e : setSlot fs r0 sl0 v = pt fs r0 { f0 with slots := f0.slots.set sl0.toNat v } := by unfold setSlot; rw [hf0]
            unfold mw
            simp only
            have eon : onL (pt fs r0 { f0 with slots := f0.slots.set sl0.toNat v }) = onL fs := onL_same ndf hf0 rfl
            rw [e, slL_pt, eon]
          refine kk _ x' _ xw ?_ S6
          rw [em]
          rw [xw] at R6
          exact R6
        · by_cases i0 : i = 0
          · subst i0
            rw [if_pos rfl] at k
            refine ⟨_, rfl, _, rfl, _, _, rfl, rfl, rfl, _, rfl, ifT (decide_eq_true (by rw [hn]; congr 1; omega)) ?_⟩
            have gt := g_tops (S'.own _ _ R'.wd)
            rw [xw] at gt
            refine ⟨_, rfl, p, _, _, _, rfl, rfl, SqL.of hp', aI, _, rfl, x.w, _, rfl, gt, _, rfl, x'.ta, _, h, h.toNat, rfl, rfl, S'.own _ _ R'.tp, by rw [List.length_map]; exact ixN_ok hk.1 hk.2, ?_⟩
            have R6 := R'.setTops (W.tops.set h.toNat (some rr))
            have S6 := S'.upd R'.tp (.lst ((W.tops.set h.toNat (some rr)).map oV))
            rw [List.map_set] at R6 S6
            obtain ⟨f0, hf0, ef0⟩ := lsx sl3
            have em : mw { W with frames := fs3, tops := W.tops.set h.toNat (some rr) } = { mw { W with frames := fs } with tops := W.tops.set h.toNat (some rr) } := by
              unfold mw; simp only; rw [on3, sl3]
            exact hn' _ _ ⟨_, _, _, _, x', fs3, _, pl2, r0, f0, rfl, xw, by rw [em]; exact R6, S6, nd3, (upd_ne (fun z => by rw [z, R'.tp] at pB'; cases pB')).trans hp', aD2, hf0, by rw [ef0], fun B2 x2 H2 z1 z2 z3 => by
              rw [hn]; exact k B2 x2 H2 z1 (by rw [← rl] at z2; exact z2) z3⟩
          · rw [if_neg i0] at k
            obtain ⟨g, hg⟩ := cup i0
            refine ⟨_, rfl, _, rfl, _, _, rfl, rfl, rfl, _, rfl, ifF (decide_eq_false fun z => by have := V.int.inj z; omega) ?_⟩
            refine ⟨_, rfl, _, _, rfl, rfl, _, rfl, ifT (decide_eq_true (by omega)) ?_⟩
            have go := g_on (S'.own _ _ R'.wd)
            rw [xw] at go
            have aI2 : atI (pl2.map V.int) (d - nn + 1) = some (V.int rr) := by rw [show d - nn + 1 = (i : Int) by omega]; exact aI
            have aK : atI (pl2.map V.int) (d - nn) = some (V.int (qs.getD (i - 1) 0)) := by
              rw [show d - nn = ((i - 1 : Nat) : Int) by omega]
              refine atI_nat ?_
              rw [← el2, List.getElem?_map, List.append_assoc, List.getElem?_append_left (by omega), List.getElem?_take_of_lt (by omega)]
              have : qs.getD (i - 1) 0 = l.getD (i - 1) 0 := by rw [List.getD_eq_getElem?_getD, List.getD_eq_getElem?_getD, ← eq0, List.getElem?_take_of_lt (by omega)]
              rw [this, List.getD_eq_getElem?_getD, List.getElem?_eq_getElem (by omega)]; rfl
            refine ⟨_, rfl, _, rfl, _, rfl, _, _, rfl, rfl, _, _, rfl, rfl, p, _, _, _, rfl, rfl, SqL.of hp', aI2, _, rfl, x.w, _, rfl, go, _, rfl, _, rfl, _, rfl, _, _, rfl, rfl, p, _, _, _, rfl, rfl, SqL.of hp', aK, x'.oa, _, rfl, DPut.k (k := Sum.inl (qs.getD (i - 1) 0)) (S'.own _ _ R'.on) (szl (by rw [mkV_len]; show (onL fs).length ≤ 100000; unfold onL; rw [List.length_map]; have z1 : ks fs = ks (wantF W.frames b) ++ rs := Cf.keys; have z2 := len_ks fs; rw [z1, List.length_append, ks_want, ← len_ks] at z2; have := F.len; omega)), ?_⟩
            have ndo : (ks (onL fs)).Nodup := by rw [ks_onL]; exact Cf.wf.nd
            have kin : qs.getD (i - 1) 0 ∈ ks (onL fs) := by rw [← on3, ks_onL]; exact mem_ks.mpr ⟨g, hg⟩
            rw [show putK (mkV (mw { W with frames := fs }).on) (Sum.inl (qs.getD (i - 1) 0)) (V.int rr) = mkV (pt (onL fs) (qs.getD (i - 1) 0) (some rr)) from putK_mk_old (some rr) ndo kin]
            have R6 := R'.setOn (pt (onL fs) (qs.getD (i - 1) 0) (some rr))
            have S6 := S'.upd R'.on (.dK (mkV (pt (onL fs) (qs.getD (i - 1) 0) (some rr))))
            have e4 : setBelow fs3 (qs.getD (i - 1) 0) (some rr) = pt fs3 (qs.getD (i - 1) 0) { g with below := some rr } := by unfold setBelow; rw [hg]
            have on4 : onL (setBelow fs3 (qs.getD (i - 1) 0) (some rr)) = pt (onL fs) (qs.getD (i - 1) 0) (some rr) := by rw [e4, onL_pt, on3]
            have sl4 : slL (setBelow fs3 (qs.getD (i - 1) 0) (some rr)) = slL fs := by
              have z : slL (pt fs3 (qs.getD (i - 1) 0) { g with below := some rr }) = slL fs3 := slL_same nd3 hg rfl
              rw [e4, z, sl3]
            have nd4 : (ks (setBelow fs3 (qs.getD (i - 1) 0) (some rr))).Nodup := by rw [e4]; exact nd_pt nd3
            obtain ⟨f0, hf0, ef0⟩ := lsx sl4
            have em : mw { W with frames := setBelow fs3 (qs.getD (i - 1) 0) (some rr) } = { mw { W with frames := fs } with on := pt (onL fs) (qs.getD (i - 1) 0) (some rr) } := by
              unfold mw; simp only; rw [on4, sl4]
            exact hn' _ _ ⟨_, _, _, _, x', setBelow fs3 (qs.getD (i - 1) 0) (some rr), W.tops, pl2, r0, f0, rfl, xw, by
              show MA _ x' (mw { W with frames := setBelow fs3 (qs.getD (i - 1) 0) (some rr) })
              rw [em]; exact R6, S6, nd4, (upd_ne (fun z => by rw [z, R'.on] at pB'; cases pB')).trans hp', aD2, hf0, by rw [ef0], fun B2 x2 H2 z1 z2 z3 => by
              rw [hn]; exact k B2 x2 H2 z1 (by rw [← rl] at z2; exact z2) z3⟩
end
end Sk
end
section
/-! SwD7: the law's own wood: what a deed is to tell. -/
namespace Sk
open PySem PySem.Spec PyProof.Rows L2 SW
/-- W' is W with other ends, all rooms that nobody reaches given back -/
structure Swp (W W' : Wd) : Prop where
  wf : WFW W'
  sub : SW.Sub W'.frames W.frames
  hb : onL W'.frames = (onL W.frames).filter fun q => has W'.frames q.1
  hs : slL W'.frames = (slL W.frames).filter fun q => has W'.frames q.1
  rooms : W'.rooms = W.rooms
  made : W'.made = W.made
def ends (W W' : Wd) : Mw := { mw W with tops := W'.tops, marks := W'.marks, many := W'.many }
theorem Swp.mw {W W' : Wd} (S : Swp W W') : { ends W W' with on := (ends W W').on.filter (fun q => decide (q.1 ∈ reach W.frames ((ends W W').tops ++ mv (ends W W').marks))), sl := (ends W W').sl.filter (fun q => decide (q.1 ∈ reach W.frames ((ends W W').tops ++ mv (ends W W').marks))) } = Sk.mw W' := by
  have h1 := swept_plain (·.below) S.wf S.sub S.hb
  have h2 := swept_plain (·.slots) S.wf S.sub S.hs
  have h1 : onL W'.frames = (onL W.frames).filter fun q => decide (q.1 ∈ reach W.frames (W'.tops ++ mv W'.marks)) := h1
  have h2 : slL W'.frames = (slL W.frames).filter fun q => decide (q.1 ∈ reach W.frames (W'.tops ++ mv W'.marks)) := h2
  unfold ends Sk.mw
  simp only
  rw [h1, h2, S.rooms, S.made]
theorem Leave.swp {W W' : Wd} (F : WFW W) (F' : WFW W') {x y : Option Int} (l : Leave (wantF W.frames x) y W'.frames) (s : SW.Sub W'.frames W.frames) (er : W'.rooms = W.rooms) (em : W'.made = W.made) : Swp W W' := by
  have ndw : (ks (wantF W.frames x)).Nodup := by rw [ks_want]; exact F.wf.nd
  refine ⟨F', s, ?_, ?_, er, em⟩
  · have := Leave.map (·.below) (fun _ _ => rfl) l ndw
    rw [want_map (·.below) (fun _ _ => rfl) F.wf.nd] at this
    exact this
  · have := Leave.map (·.slots) (fun _ _ => rfl) l ndw
    rw [want_map (·.slots) (fun _ _ => rfl) F.wf.nd] at this
    exact this
theorem Turned.swp {W : Wd} (F : WFW W) {h : Int} {x : Option Int} (T : Turned W (turnTo W h x) h x) : Swp W (turnTo W h x) := Leave.swp F T.wfw T.lv T.sub rfl rfl
theorem keep_swp {W W' : Wd} (F : WFW W) {h p : Int} (e : doKeep W h = .ok (p, W')) : Swp W W' := by
  obtain ⟨k, rfl, _, F', _⟩ := doKeep_ok F e
  unfold doKeep at e
  rw [if_neg (fun z => z k)] at e
  have e2 := congrArg Prod.snd (Except.ok.inj e)
  simp only at e2
  subst e2
  have hall : ∀ r ∈ ks W.frames, has (wantF W.frames (top W h)) r = true := fun r hr => by
    rw [← ks_want W.frames (top W h)] at hr
    obtain ⟨f, hf⟩ := mem_ks.mp hr
    exact has_true.mpr ⟨f, hf⟩
  refine ⟨F', Sub.want _ _, ?_, ?_, rfl, rfl⟩
  · show onL (wantF W.frames (top W h)) = _
    rw [onL_want F.wf.nd, List.filter_eq_self.mpr]
    intro q hq
    exact hall q.1 (by rw [← ks_onL]; exact List.mem_map.mpr ⟨q, hq, rfl⟩)
  · show slL (wantF W.frames (top W h)) = _
    rw [slL_want F.wf.nd, List.filter_eq_self.mpr]
    intro q hq
    exact hall q.1 (by rw [← ks_slL]; exact List.mem_map.mpr ⟨q, hq, rfl⟩)
theorem forget_swp {W W' : Wd} (F : WFW W) {p : Int} (e : doForget W p = .ok W') : Swp W W' := by
  obtain ⟨x, hx, l, F', _⟩ := doForget_ok F e
  unfold doForget at e
  rw [hx] at e
  have e2 := Except.ok.inj e
  subst e2
  obtain ⟨_, _, s1⟩ : True ∧ True ∧ SW.Sub (leave W.frames x) W.frames := by
    refine ⟨trivial, trivial, ?_⟩
    have e1 : ∀ r, cW W r = (cR W.tops r + cR (mv (dr W.marks p)) r) + one x r := fun r => by
      have := mv_dr F.ndm hx r
      show cR W.tops r + cR (mv W.marks) r = _
      omega
    obtain ⟨gs, l1, w2, s1⟩ := WF.leave _ rfl (F.wf.ext e1)
    have eg : leave W.frames x = gs := l1.eq F.wf.nd
    rw [eg]; exact s1
  have l : Leave (wantF W.frames none) x (leave W.frames x) := l
  exact Leave.swp F F' l s1 rfl rfl
theorem mD_putMany (x : Mx) (r m n m' : Int) : putK (mD x r m n) (Sum.inr "many") (.int m') = mD x r m' n := by
  unfold putK
  rw [valV_any, mD_many, if_pos (by rfl)]
  unfold mD
  simp only [List.map_cons, List.map_nil, if_neg (key_ne (a := Str.ofString "rooms") (b := Str.ofString "many") (by decide +kernel)), if_neg (key_ne (a := Str.ofString "on") (b := Str.ofString "many") (by decide +kernel)), if_neg (key_ne (a := Str.ofString "slots") (b := Str.ofString "many") (by decide +kernel)), if_neg (key_ne (a := Str.ofString "tops") (b := Str.ofString "many") (by decide +kernel)), if_neg (key_ne (a := Str.ofString "marks") (b := Str.ofString "many") (by decide +kernel)), if_neg (key_ne (a := Str.ofString "made") (b := Str.ofString "many") (by decide +kernel)), if_pos]
theorem bad1 {n h : Int} : badH n [h] = [] ↔ 0 ≤ h ∧ h < n := by
  unfold badH
  by_cases a : 0 ≤ h <;> by_cases b : h < n <;> simp [a, b]
theorem bad2 {n h k : Int} : badH n [h, k] = [] ↔ (0 ≤ h ∧ h < n) ∧ 0 ≤ k ∧ k < n := by
  unfold badH
  by_cases a : 0 ≤ h <;> by_cases b : h < n <;> by_cases c : 0 ≤ k <;> by_cases d : k < n <;> simp [a, b, c, d]
/-- the faults are those of the deed -/
theorem fault_err {W : Wd} {D : Deed} {e : Er} (h : faultD (W.tops.length : Int) W.marks D = some e) : doDeed W D = .error e := by
  unfold faultD at h
  cases D with
  | call h0 vs =>
    split at h
    · cases h
    · rename_i z
      cases h
      have : ¬ hOk W h0 := fun q => z (bad1.mpr q)
      simp only [doDeed, doCall, if_pos this]; rfl
  | back h0 =>
    split at h
    · cases h
    · rename_i z
      cases h
      have : ¬ hOk W h0 := fun q => z (bad1.mpr q)
      simp only [doDeed, doBack, if_pos this]; rfl
  | put h0 d s v =>
    split at h
    · cases h
    · rename_i z
      cases h
      have : ¬ hOk W h0 := fun q => z (bad1.mpr q)
      simp only [doDeed, doPut, doWay, if_pos this]; rfl
  | branch h0 k =>
    split at h
    · cases h
    · rename_i z
      cases h
      simp only [doDeed, doBranch]
      by_cases q : ¬ hOk W h0
      · rw [if_pos q]; rfl
      · rw [if_neg q]
        have : ¬ hOk W k := fun w => z (bad2.mpr ⟨Decidable.not_not.mp q, w⟩)
        rw [if_pos this]; rfl
  | keep h0 =>
    split at h
    · cases h
    · rename_i z
      cases h
      have : ¬ hOk W h0 := fun q => z (bad1.mpr q)
      simp only [doDeed, doKeep, if_pos this]; rfl
  | leap h0 p =>
    split at h
    · rename_i z
      have hk : hOk W h0 := bad1.mp z
      simp only [doDeed, doLeap, if_neg (fun w : ¬ hOk W h0 => w hk)]
      have h : (if (lk W.marks p).isSome = true then none else some Er.place) = some e := h
      cases em : lk W.marks p with
      | none => rw [em] at h; cases h; rfl
      | some y => rw [em] at h; cases h
    · rename_i z
      cases h
      have : ¬ hOk W h0 := fun q => z (bad1.mpr q)
      simp only [doDeed, doLeap, if_pos this]; rfl
  | forget p =>
    split at h
    · simp only [doDeed, doForget]
      have h : (if (lk W.marks p).isSome = true then none else some Er.place) = some e := h
      cases em : lk W.marks p with
      | none => rw [em] at h; cases h; rfl
      | some y => rw [em] at h; cases h
    · rename_i z
      exact absurd rfl z
theorem fault_ok {n : Int} {ms : List (Int × Option Int)} {D : Deed} (h : faultD n ms D = none) : badH n (hands2 D) = [] ∧ faultP ms D = none := by
  unfold faultD at h
  split at h
  · rename_i z; exact ⟨z, h⟩
  · cases h
theorem next_of {D : Ends} {σ : L2.St} {H : Hp} (h : D.nx σ H) : tNext D σ H := h
def spMDue (K : PySem.W.Frag) : Sp := fun vs H Q _ => ∃ (B : Hp) (x : Mx) (W : Wd) (t : Addr) (D : Deed), vs = [.ref x.w, .ref t] ∧ Sub B H ∧ MA B x (mw W) ∧ WFW W ∧ DeedAt H t D ∧ W.marks.length ≤ 900 ∧
  match doDeed W D with
  | .error e => ∀ H', Same H H' → Q (.str (ern e)) H'
  | .ok (r, W') => ∀ B' x' H' v, x'.w = x.w → MA B' x' (mw W') → Stp B H B' H' → ResAt H H' v r → Q v H'
theorem ern_ne (e : Er) : decide (ern e = Str.ofString "") = false := by cases e <;> decide +kernel
section
variable {P : Program} {w : World} {K : PySem.W.Frag} {mg : Str → Option Value} {base : Heap}
theorem ok_l_due (T : Txt K mg) : FnOk P w K mg base CX0 4 (aG K "_law_due") (fdOf K (aG K "_law_due")) ["_law_w", "_law_deed_here"] (spMDue K) := by
  refine T.F_l_due.ok sc_l_due (fun vs H Q E h => ?_) (fun cdv A outer s H vs Q E hr h => ?_)
  · obtain ⟨_, _, _, _, _, rfl, _⟩ := h; rfl
  · obtain ⟨B, x, W, t, D, rfl, s0, R, F, hD, hm, k⟩ := h
    refine ⟨_, PSs.nox (pss_cons (ps_set (i := 2) sc_l_due.nd rfl (Or.inl rfl) (pe_call (ok_l_fault T) (hr.mono (by decide)) rfl T.g__law_fault T.F_l_fault.kp T.b_l_fault .nil pass0 (pa_cons (pv 0) (pa_cons (pv 1) pa_nil)))) (pss_cons (ps_if (pt_cmpR op_ne (pv 2) pe_str (nomark _)) (pss_one (ps_ret (pv 2))) pss_nil) (pss_cons (ps_set (i := 3) sc_l_due.nd rfl (Or.inl rfl) pe_non) (pss_cons (ps_if (pt_cmpR op_eq (pe_ix (ix_tupK K rfl) (pv 1) pe_int (fun _ _ => rfl)) pe_str (nomark _)) (pss_one (ps_ret (pe_call (ok_l_call T) (hr.mono (by decide)) rfl T.g__law_call T.F_l_call.kp T.b_l_call .nil pass0 (pa_cons (pv 0) (pa_cons (pe_ix (ix_tupK K rfl) (pv 1) pe_int (fun _ _ => rfl)) (pa_cons (pe_ix (ix_tupK K rfl) (pv 1) pe_int (fun _ _ => rfl)) pa_nil)))))) pss_nil) (pss_cons (ps_if (pt_cmpR op_eq (pe_ix (ix_tupK K rfl) (pv 1) pe_int (fun _ _ => rfl)) pe_str (nomark _)) (pss_one (ps_ret (pe_call (ok_l_put T) (hr.mono (by decide)) rfl T.g__law_put T.F_l_put.kp T.b_l_put .nil pass0 (pa_cons (pv 0) (pa_cons (pe_ix (ix_tupK K rfl) (pv 1) pe_int (fun _ _ => rfl)) (pa_cons (pe_ix (ix_tupK K rfl) (pv 1) pe_int (fun _ _ => rfl)) (pa_cons (pe_ix (ix_tupK K rfl) (pv 1) pe_int (fun _ _ => rfl)) (pa_cons (pe_ix (ix_tupK K rfl) (pv 1) pe_int (fun _ _ => rfl)) pa_nil)))))))) pss_nil) (pss_cons (ps_if (pt_cmpR op_eq (pe_ix (ix_tupK K rfl) (pv 1) pe_int (fun _ _ => rfl)) pe_str (nomark _)) (pss_cons (ps_set (i := 4) sc_l_due.nd rfl (Or.inl rfl) (pe_ix (ix_listK K rfl) (pe_dget (hu_of hr) (pv 0) pe_str (fun _ _ => rfl)) (pe_ix (ix_tupK K rfl) (pv 1) pe_int (fun _ _ => rfl)) (fun _ _ => rfl))) (pss_cons (ps_if (pt_cmpR op_isN1 (pv 4) pe_non (nomark _)) (pss_one (ps_ret pe_str)) pss_nil) (pss_cons (ps_set (i := 3) sc_l_due.nd rfl (Or.inl rfl) (pe_callTy (call_listK K rfl) rfl T.n_list (by decide +kernel) (pa_cons (pe_dget (hu_of hr) (pe_dget (hu_of hr) (pv 0) pe_str (fun _ _ => rfl)) (pv 4) (fun _ _ => rfl)) pa_nil))) (pss_one (ps_asg (pe_dget (hu_of hr) (pe_dget (hu_of hr) (pv 0) pe_str (fun _ _ => rfl)) (pv 4) (fun _ _ => rfl)) (pg_sub (pe_dget (hu_of hr) (pv 0) pe_str (fun _ _ => rfl)) (pe_ix (ix_tupK K rfl) (pv 1) pe_int (fun _ _ => rfl)) set_list)))))) (pss_one (ps_if (pt_cmpR op_eq (pe_ix (ix_tupK K rfl) (pv 1) pe_int (fun _ _ => rfl)) pe_str (nomark _)) (pss_one (ps_asg (pe_ix (ix_listK K rfl) (pe_dget (hu_of hr) (pv 0) pe_str (fun _ _ => rfl)) (pe_ix (ix_tupK K rfl) (pv 1) pe_int (fun _ _ => rfl)) (fun _ _ => rfl)) (pg_sub (pe_dget (hu_of hr) (pv 0) pe_str (fun _ _ => rfl)) (pe_ix (ix_tupK K rfl) (pv 1) pe_int (fun _ _ => rfl)) set_list))) (pss_one (ps_if (pt_cmpR op_eq (pe_ix (ix_tupK K rfl) (pv 1) pe_int (fun _ _ => rfl)) pe_str (nomark _)) (pss_cons (ps_set (i := 3) sc_l_due.nd rfl (Or.inl rfl) (pe_dget (hu_of hr) (pv 0) pe_str (fun _ _ => rfl))) (pss_cons (ps_dput (hu_of hr) (pe_dget (hu_of hr) (pv 0) pe_str (fun _ _ => rfl)) (pv 3) (pe_ix (ix_listK K rfl) (pe_dget (hu_of hr) (pv 0) pe_str (fun _ _ => rfl)) (pe_ix (ix_tupK K rfl) (pv 1) pe_int (fun _ _ => rfl)) (fun _ _ => rfl)) rfl) (pss_one (ps_dput (hu_of hr) (pv 0) pe_str (pe_op op_add (pv 3) pe_int) rfl)))) (pss_one (ps_if (pt_cmpR op_eq (pe_ix (ix_tupK K rfl) (pv 1) pe_int (fun _ _ => rfl)) pe_str (nomark _)) (pss_one (ps_asg (pe_dget (hu_of hr) (pe_dget (hu_of hr) (pv 0) pe_str (fun _ _ => rfl)) (pe_ix (ix_tupK K rfl) (pv 1) pe_int (fun _ _ => rfl)) (fun _ _ => rfl)) (pg_sub (pe_dget (hu_of hr) (pv 0) pe_str (fun _ _ => rfl)) (pe_ix (ix_tupK K rfl) (pv 1) pe_int (fun _ _ => rfl)) set_list))) (pss_one (ps_expr (pe_dpop1 (pe_dget (hu_of hr) (pv 0) pe_str (fun _ _ => rfl)) (pe_ix (ix_tupK K rfl) (pv 1) pe_int (fun _ _ => rfl)) ⟨rfl, rfl, rfl, rfl⟩)))))))))) (pss_cons (ps_expr (pe_call (ok_l_swept T) (hr.mono (by decide)) rfl T.g__law_swept T.F_l_swept.kp T.b_l_swept .nil pass0 (pa_cons (pv 0) pa_nil))) (pss_one (ps_ret (pv 3)))))))))), ?_⟩
    refine ⟨_, rfl, _, rfl, B, x, mw W, t, D, rfl, s0, R, hD, fun H1 e1 => ?_⟩
    show gName 2 (V.str (erS (faultD (W.tops.length : Int) W.marks D))) _ _ _
    refine gName_to ?_
    cases ef : faultD (W.tops.length : Int) W.marks D with
    | some er =>
      rw [fault_err ef] at k
      refine ⟨_, rfl, rfl, _, rfl, ifT (by cases er <;> decide +kernel) ?_⟩
      exact ⟨_, rfl, k _ e1⟩
    | none =>
      obtain ⟨hb, hp⟩ := fault_ok ef
      refine ⟨_, rfl, rfl, _, rfl, ifF (by decide +kernel) ?_⟩
      have hD1 := hD.up (H' := H1) (fun b xs e => e1 _ _ e) (fun b xs e => e1 _ _ e)
      have S1 := (Stp.refl s0).same e1
      refine next_of ?_
      with_reducible refine seq_of (asg_of ?_)
      refine gName_to ?_
      -- call
      with_reducible refine if_split (fun σ H' => (∀ h vs, D ≠ .call h vs) ∧ σ = [some (.ref x.w), some (.ref t), some (.str (erS none)), some .non, none] ∧ H1 = H') (fun σ H' hI => ?_) (fun nx' hn => ?_)
      · obtain ⟨nc, rfl, rfl⟩ := hI
        -- put
        with_reducible refine if_split (fun σ H' => (∀ h d s v, D ≠ .put h d s v) ∧ σ = [some (.ref x.w), some (.ref t), some (.str (erS none)), some .non, none] ∧ H1 = H') (fun σ H' hI => ?_) (fun nx' hn => ?_)
        · obtain ⟨np, rfl, rfl⟩ := hI
          -- the others
          with_reducible refine if_split (fun σ H' => ∃ (u4 : Option V) (v : V) (r : Res) (W' : Wd) (B1 : Hp), σ = [some (.ref x.w), some (.ref t), some (.str (erS none)), some v, u4] ∧ MA B1 x (ends W W') ∧ Stp B H B1 H' ∧ Swp W W' ∧ ResAt H H' v r ∧ (∀ l, v = .ref l → B1 l = none) ∧ (∀ y ∈ W'.tops ++ mv W'.marks, y ∈ W.tops ++ mv W.marks ∨ ∀ r, y = some r → ∃ f, lk W.frames r = some f) ∧ W'.tops.length ≤ 6 ∧ W'.marks.length ≤ 1000 ∧ doDeed W D = .ok (r, W')) (fun σ H' hI => ?_) (fun nx' hn => ?_)
          · obtain ⟨u4, vv, r, W', B1, rfl, R1, S2, sw, ra, vB, hy, l6, lm, ed⟩ := hI
            rw [ed] at k
            have ndm := sw.wf.ndm
            refine ⟨_, rfl, B1, x, ends W W', W.frames, rfl, S2.own, R1, ?_, ?_, ndm, fun y hy2 => ?_, l6, lm, ?_, fun B' H2 R3 S3 => ?_⟩
            · show ks (onL W.frames) = ks (slL W.frames)
              rw [ks_onL, ks_slL]
            · show (ks (onL W.frames)).Nodup
              rw [ks_onL]; exact F.wf.nd
            · have hin : ∀ r, y = some r → ∃ f, lk W.frames r = some f := by
                rcases hy y hy2 with z | z
                · rcases List.mem_append.mp z with q | q
                  · exact F.ref (.inl q)
                  · exact F.ref (.inr q)
                · exact z
              have pth := F.wf.path y hin
              exact ⟨pth.on, Nat.le_trans pth.len F.len⟩
            · show (onL W.frames).length ≤ 40
              unfold onL; rw [List.length_map]; exact F.len
            · rw [sw.mw] at R3
              refine ⟨_, rfl, k B' x H2 _ rfl R3 (S2.trans S3) ?_⟩
              cases r with
              | int n => exact ra
              | non => exact ra
              | lst zs =>
                obtain ⟨l, z1, z2, z3⟩ := ra
                exact ⟨l, z1, z2, S3.oth _ _ z3 (vB l z1)⟩
          · cases D with
            | call h0 vs => exact absurd rfl (nc _ _)
            | put h0 d s v => exact absurd rfl (np _ _ _ _)
            | back h0 =>
              have hk : hOk W h0 := bad1.mp hb
              have ht : H1 t = _ := hD1
              refine ⟨_, rfl, t, _, _, _, rfl, rfl, SqT.of ht, atI_nat (j := 0) rfl, rfl, _, rfl, ifT (by decide +kernel) ?_⟩
              refine ⟨_, rfl, x.w, _, rfl, g_tops (S1.own _ _ R.wd), _, rfl, t, _, _, _, rfl, rfl, SqT.of ht, atI_nat (j := 1) rfl, x.ta, _, _, _, rfl, rfl, SqL.of (S1.own _ _ R.tp), atI_tops hk, ?_⟩
              refine ⟨_, rfl, rfl, _, rfl, ?_⟩
              simp only [doDeed, doBack, if_neg (fun z : ¬ hOk W h0 => z hk)] at k
              cases et : top W h0 with
              | none =>
                rw [et] at k
                exact iteT (k _ e1)
              | some r =>
                obtain ⟨f, hf⟩ := F.topIn h0 r et
                refine iteF ?_
                have ls : lk (slL W.frames) r = some f.slots := by rw [lk_slL, hf]; rfl
                have lo : lk (onL W.frames) r = some f.below := by rw [lk_onL, hf]; rfl
                have gsl : DGet H1 x.sa (V.int r) (some (.ref (x.so r))) := by
                  have := DGet.k (k := Sum.inl r) (S1.own _ _ R.sl)
                  rw [valV_sl] at this
                  rw [show lk (mw W).sl r = some f.slots from ls] at this; exact this
                refine ⟨_, rfl, x.w, _, rfl, g_slots (S1.own _ _ R.wd), _, rfl, x.sa, _, rfl, gsl, x.so r, _, rfl, .inl (SqL.of (S1.own _ _ (R.ss _ _ ls))), fun l nl => ?_⟩
                have S2 := S1.same (same_new nl (.lst (f.slots.map V.int)))
                have ht2 := same_new nl (.lst (f.slots.map V.int)) _ _ ht
                have gon : DGet (upd H1 l (.lst (f.slots.map V.int))) x.oa (V.int r) (some (oV f.below)) := by
                  have := DGet.k (k := Sum.inl r) (S2.own _ _ R.on)
                  rw [valV_mk] at this
                  rw [show lk (mw W).on r = some f.below from lo] at this; exact this
                refine ⟨_, rfl, x.w, _, rfl, g_on (S2.own _ _ R.wd), _, rfl, x.oa, _, rfl, gon, _, rfl, x.w, _, rfl, g_tops (S2.own _ _ R.wd), _, rfl, t, _, _, _, rfl, rfl, SqT.of ht2, atI_nat (j := 1) rfl, x.ta, _, h0, h0.toNat, rfl, rfl, S2.own _ _ R.tp, by rw [List.length_map]; exact ixN_ok hk.1 hk.2, ?_⟩
                have R6 := R.setTops (W.tops.set h0.toNat f.below)
                have S6 := S2.upd R.tp (.lst ((W.tops.set h0.toNat f.below).map oV))
                rw [List.map_set] at R6 S6
                have T := turnTo_ok F hk (x := f.below) fun b hb => F.wf.bin r f b hf hb
                have nlt : l ≠ x.ta := (ne_of_none (S1.own _ _ R.tp) nl).symm
                have nlB := off_new S1.own nl
                refine hn _ _ ⟨_, _, .lst f.slots, turnTo W h0 f.below, _, rfl, R6, S6, Turned.swp F T, ⟨l, rfl, e1.free nl, (upd_ne nlt).trans upd_same⟩, fun l' z => ?_, fun y hy => ?_, T.wfw.h6, by show W.marks.length ≤ 1000; omega, ?_⟩
                · cases z
                  exact (upd_ne nlt).trans nlB
                · rcases List.mem_append.mp hy with q | q
                  · rcases mem_set q with z | z
                    · exact .inr fun b hb => F.wf.bin r f b hf (by rw [← z]; exact hb)
                    · exact .inl (List.mem_append_left _ z)
                  · exact .inl (List.mem_append_right _ q)
                · simp only [doDeed, doBack, if_neg (fun z : ¬ hOk W h0 => z hk), et, hf]; rfl
            | branch h0 h1 =>
              obtain ⟨hk, hk1⟩ : hOk W h0 ∧ hOk W h1 := bad2.mp hb
              have ht : H1 t = _ := hD1
              refine ⟨_, rfl, t, _, _, _, rfl, rfl, SqT.of ht, atI_nat (j := 0) rfl, rfl, _, rfl, ifF (by decide +kernel) ?_⟩
              refine ⟨_, rfl, t, _, _, _, rfl, rfl, SqT.of ht, atI_nat (j := 0) rfl, rfl, _, rfl, ifT (by decide +kernel) ?_⟩
              refine ⟨_, rfl, x.w, _, rfl, g_tops (S1.own _ _ R.wd), _, rfl, t, _, _, _, rfl, rfl, SqT.of ht, atI_nat (j := 1) rfl, x.ta, _, _, _, rfl, rfl, SqL.of (S1.own _ _ R.tp), atI_tops hk, _, rfl, x.w, _, rfl, g_tops (S1.own _ _ R.wd), _, rfl, t, _, _, _, rfl, rfl, SqT.of ht, atI_nat (j := 2) rfl, x.ta, _, h1, h1.toNat, rfl, rfl, S1.own _ _ R.tp, by rw [List.length_map]; exact ixN_ok hk1.1 hk1.2, ?_⟩
              have R6 := R.setTops (W.tops.set h1.toNat (top W h0))
              have S6 := S1.upd R.tp (.lst ((W.tops.set h1.toNat (top W h0)).map oV))
              rw [List.map_set] at R6 S6
              have T := turnTo_ok F hk1 (x := top W h0) (F.topIn h0)
              refine hn _ _ ⟨_, _, .non, turnTo W h1 (top W h0), _, rfl, R6, S6, Turned.swp F T, rfl, fun l' z => ?_, fun y hy => ?_, T.wfw.h6, by show W.marks.length ≤ 1000; omega, ?_⟩
              · cases z
              · rcases List.mem_append.mp hy with q | q
                · rcases mem_set q with z | z
                  · exact .inr fun b hb => F.topIn h0 b (by rw [← z]; exact hb)
                  · exact .inl (List.mem_append_left _ z)
                · exact .inl (List.mem_append_right _ q)
              · simp only [doDeed, doBranch, if_neg (fun z : ¬ hOk W h0 => z hk), if_neg (fun z : ¬ hOk W h1 => z hk1)]; rfl
            | keep h0 =>
              have hk : hOk W h0 := bad1.mp hb
              have ht : H1 t = _ := hD1
              have nm : lk W.marks W.many = none := by
                rw [← not_mem_ks]; intro z; have := F.mr _ z; omega
              refine ⟨_, rfl, t, _, _, _, rfl, rfl, SqT.of ht, atI_nat (j := 0) rfl, rfl, _, rfl, ifF (by decide +kernel) ?_⟩
              refine ⟨_, rfl, t, _, _, _, rfl, rfl, SqT.of ht, atI_nat (j := 0) rfl, rfl, _, rfl, ifF (by decide +kernel) ?_⟩
              refine ⟨_, rfl, t, _, _, _, rfl, rfl, SqT.of ht, atI_nat (j := 0) rfl, rfl, _, rfl, ifT (by decide +kernel) ?_⟩
              refine ⟨_, rfl, x.w, _, rfl, g_many (S1.own _ _ R.wd), ?_⟩
              refine ⟨_, rfl, x.w, _, rfl, g_tops (S1.own _ _ R.wd), _, rfl, t, _, _, _, rfl, rfl, SqT.of ht, atI_nat (j := 1) rfl, x.ta, _, _, _, rfl, rfl, SqL.of (S1.own _ _ R.tp), atI_tops hk, _, rfl, x.w, _, rfl, g_marks (S1.own _ _ R.wd), _, rfl, x.ma, _, rfl, DPut.k (k := Sum.inl W.many) (S1.own _ _ R.mks) (szl (by rw [mkV_len]; show W.marks.length ≤ 100000; omega)), ?_⟩
              rw [show putK (mkV (mw W).marks) (Sum.inl W.many) (oV (top W h0)) = mkV (pt W.marks W.many (top W h0)) from putK_mk _ nm]
              have R6 := R.setMarks (pt W.marks W.many (top W h0))
              have S6 := S1.upd R.mks (.dK (mkV (pt W.marks W.many (top W h0))))
              refine ⟨_, rfl, _, _, rfl, rfl, _, rfl, x.w, _, rfl, DPut.k (k := Sum.inr (Str.ofString "many")) (S6.own _ _ R6.wd) (szl (by show 7 ≤ 100000; omega)), ?_⟩
              rw [mD_putMany]
              have R7 := R6.setNums (W.many + 1) W.made
              have S7 := S6.upd R6.wd (.dK (mD x W.rooms (W.many + 1) W.made))
              cases ek : doKeep W h0 with
              | error e => unfold doKeep at ek; rw [if_neg (fun z => z hk)] at ek; cases ek
              | ok q =>
                obtain ⟨pk, W'⟩ := q
                have sw := keep_swp F ek
                have ed : doDeed W (.keep h0) = .ok (.int pk, W') := by simp only [doDeed, ek]; rfl
                unfold doKeep at ek
                rw [if_neg (fun z => z hk)] at ek
                have ek := Except.ok.inj ek
                obtain ⟨ek1, ek2⟩ := Prod.mk.inj ek
                subst ek1 ek2
                refine hn _ _ ⟨_, _, .int W.many, _, _, rfl, R7, S7, sw, rfl, fun l' z => ?_, fun y hy => ?_, F.h6, ?_, ed⟩
                · cases z
                · rcases List.mem_append.mp hy with q | q
                  · exact .inl (List.mem_append_left _ q)
                  · have q : y ∈ mv (pt W.marks W.many (top W h0)) := q
                    rw [pt_new nm] at q
                    unfold mv at q
                    rw [List.map_append] at q
                    rcases List.mem_append.mp q with z | z
                    · exact .inl (List.mem_append_right _ z)
                    · have : y = top W h0 := by simpa using z
                      rw [this]; exact .inr (F.topIn h0)
                · show (pt W.marks W.many (top W h0)).length ≤ 1000
                  rw [len_pt_new nm]; omega
            | leap h0 pl =>
              have hk : hOk W h0 := bad1.mp hb
              have ht : H1 t = _ := hD1
              have hp : (if (lk W.marks pl).isSome = true then none else some Er.place) = none := hp
              obtain ⟨y0, hy0⟩ : ∃ y0, lk W.marks pl = some y0 := by
                cases e : lk W.marks pl with
                | none => rw [e] at hp; cases hp
                | some y => exact ⟨y, rfl⟩
              have gm : DGet H1 x.ma (V.int pl) (some (oV y0)) := by
                have := DGet.k (k := Sum.inl pl) (S1.own _ _ R.mks)
                rw [valV_mk] at this
                rw [show lk (mw W).marks pl = some y0 from hy0] at this; exact this
              refine ⟨_, rfl, t, _, _, _, rfl, rfl, SqT.of ht, atI_nat (j := 0) rfl, rfl, _, rfl, ifF (by decide +kernel) ?_⟩
              refine ⟨_, rfl, t, _, _, _, rfl, rfl, SqT.of ht, atI_nat (j := 0) rfl, rfl, _, rfl, ifF (by decide +kernel) ?_⟩
              refine ⟨_, rfl, t, _, _, _, rfl, rfl, SqT.of ht, atI_nat (j := 0) rfl, rfl, _, rfl, ifF (by decide +kernel) ?_⟩
              refine ⟨_, rfl, t, _, _, _, rfl, rfl, SqT.of ht, atI_nat (j := 0) rfl, rfl, _, rfl, ifT (by decide +kernel) ?_⟩
              refine ⟨_, rfl, x.w, _, rfl, g_marks (S1.own _ _ R.wd), _, rfl, t, _, _, _, rfl, rfl, SqT.of ht, atI_nat (j := 2) rfl, x.ma, _, rfl, gm, _, rfl, x.w, _, rfl, g_tops (S1.own _ _ R.wd), _, rfl, t, _, _, _, rfl, rfl, SqT.of ht, atI_nat (j := 1) rfl, x.ta, _, h0, h0.toNat, rfl, rfl, S1.own _ _ R.tp, by rw [List.length_map]; exact ixN_ok hk.1 hk.2, ?_⟩
              have R6 := R.setTops (W.tops.set h0.toNat y0)
              have S6 := S1.upd R.tp (.lst ((W.tops.set h0.toNat y0).map oV))
              rw [List.map_set] at R6 S6
              have hin := F.ref (x := y0) (.inr (lk_mv hy0))
              have T := turnTo_ok F hk (x := y0) hin
              refine hn _ _ ⟨_, _, .non, turnTo W h0 y0, _, rfl, R6, S6, Turned.swp F T, rfl, fun l' z => ?_, fun y hy => ?_, T.wfw.h6, by show W.marks.length ≤ 1000; omega, ?_⟩
              · cases z
              · rcases List.mem_append.mp hy with q | q
                · rcases mem_set q with z | z
                  · exact .inr fun b hb => hin b (by rw [← z]; exact hb)
                  · exact .inl (List.mem_append_left _ z)
                · exact .inl (List.mem_append_right _ q)
              · simp only [doDeed, doLeap, if_neg (fun z : ¬ hOk W h0 => z hk), hy0]; rfl
            | forget pl =>
              have ht : H1 t = _ := hD1
              have hp : (if (lk W.marks pl).isSome = true then none else some Er.place) = none := hp
              obtain ⟨y0, hy0⟩ : ∃ y0, lk W.marks pl = some y0 := by
                cases e : lk W.marks pl with
                | none => rw [e] at hp; cases hp
                | some y => exact ⟨y, rfl⟩
              refine ⟨_, rfl, t, _, _, _, rfl, rfl, SqT.of ht, atI_nat (j := 0) rfl, rfl, _, rfl, ifF (by decide +kernel) ?_⟩
              refine ⟨_, rfl, t, _, _, _, rfl, rfl, SqT.of ht, atI_nat (j := 0) rfl, rfl, _, rfl, ifF (by decide +kernel) ?_⟩
              refine ⟨_, rfl, t, _, _, _, rfl, rfl, SqT.of ht, atI_nat (j := 0) rfl, rfl, _, rfl, ifF (by decide +kernel) ?_⟩
              refine ⟨_, rfl, t, _, _, _, rfl, rfl, SqT.of ht, atI_nat (j := 0) rfl, rfl, _, rfl, ifF (by decide +kernel) ?_⟩
              refine ⟨_, rfl, x.w, _, rfl, g_marks (S1.own _ _ R.wd), x.ma, rfl, .inl ⟨_, .inl (S1.own _ _ R.mks)⟩, _, rfl, t, _, _, _, rfl, rfl, SqT.of ht, atI_nat (j := 1) rfl, _, Sum.inl pl, oV y0, S1.own _ _ R.mks, rfl, by rw [valV_mk]; show (lk W.marks pl).map oV = _; rw [hy0]; rfl, ?_⟩
              rw [dropK_mk]
              have R6 := R.setMarks (dr W.marks pl)
              have S6 := S1.upd R.mks (.dK (mkV (dr W.marks pl)))
              have ek : doForget W pl = .ok { W with frames := leave W.frames y0, marks := dr W.marks pl } := by unfold doForget; rw [hy0]
              have sw := forget_swp F ek
              refine hn _ _ ⟨_, _, .non, _, _, rfl, R6, S6, sw, rfl, fun l' z => ?_, fun y hy => ?_, F.h6, ?_, by simp only [doDeed, ek]; rfl⟩
              · cases z
              · rcases List.mem_append.mp hy with q | q
                · exact .inl (List.mem_append_left _ q)
                · obtain ⟨z, hz, rfl⟩ := List.mem_map.mp q
                  exact .inl (List.mem_append_right _ (List.mem_map.mpr ⟨z, (List.mem_filter.mp hz).1, rfl⟩))
              · show (dr W.marks pl).length ≤ 1000
                unfold dr
                have := List.length_filter_le (fun q : Int × Option Int => decide (q.1 ≠ pl)) W.marks
                omega
        · cases D with
          | put h d s v =>
            have hk : hOk W h := bad1.mp hb
            have ht : H1 t = _ := hD1
            refine ⟨_, rfl, t, _, _, _, rfl, rfl, SqT.of ht, atI_nat (j := 0) rfl, rfl, _, rfl, ifT (by decide +kernel) ?_⟩
            refine ⟨_, rfl, _, rfl, t, _, _, _, rfl, rfl, SqT.of ht, atI_nat (j := 1) rfl, _, rfl, t, _, _, _, rfl, rfl, SqT.of ht, atI_nat (j := 2) rfl, _, rfl, t, _, _, _, rfl, rfl, SqT.of ht, atI_nat (j := 3) rfl, _, rfl, t, _, _, _, rfl, rfl, SqT.of ht, atI_nat (j := 4) rfl, ?_⟩
            refine ⟨B, x, W, h, d, s, v, rfl, S1.own, R, F, hk, by omega, ?_⟩
            simp only [doDeed] at k
            cases ec : doPut W h d s v with
            | error e =>
              rw [ec] at k
              exact fun H2 e2 => k _ (e1.trans e2)
            | ok q =>
              obtain ⟨n, W'⟩ := q
              rw [ec] at k
              exact fun B' x' H2 xw R' S' => k B' x' H2 _ xw R' (S1.trans S') rfl
          | back h0 =>
            have ht : H1 t = _ := hD1
            refine ⟨_, rfl, t, _, _, _, rfl, rfl, SqT.of ht, atI_nat (j := 0) rfl, rfl, _, rfl, ifF (by decide +kernel) ?_⟩
            exact hn _ _ ⟨(fun _ _ _ _ z => by cases z), rfl, rfl⟩
          | branch h0 h1 =>
            have ht : H1 t = _ := hD1
            refine ⟨_, rfl, t, _, _, _, rfl, rfl, SqT.of ht, atI_nat (j := 0) rfl, rfl, _, rfl, ifF (by decide +kernel) ?_⟩
            exact hn _ _ ⟨(fun _ _ _ _ z => by cases z), rfl, rfl⟩
          | keep h0 =>
            have ht : H1 t = _ := hD1
            refine ⟨_, rfl, t, _, _, _, rfl, rfl, SqT.of ht, atI_nat (j := 0) rfl, rfl, _, rfl, ifF (by decide +kernel) ?_⟩
            exact hn _ _ ⟨(fun _ _ _ _ z => by cases z), rfl, rfl⟩
          | leap h0 pl =>
            have ht : H1 t = _ := hD1
            refine ⟨_, rfl, t, _, _, _, rfl, rfl, SqT.of ht, atI_nat (j := 0) rfl, rfl, _, rfl, ifF (by decide +kernel) ?_⟩
            exact hn _ _ ⟨(fun _ _ _ _ z => by cases z), rfl, rfl⟩
          | forget pl =>
            have ht : H1 t = _ := hD1
            refine ⟨_, rfl, t, _, _, _, rfl, rfl, SqT.of ht, atI_nat (j := 0) rfl, rfl, _, rfl, ifF (by decide +kernel) ?_⟩
            exact hn _ _ ⟨(fun _ _ _ _ z => by cases z), rfl, rfl⟩
          | call h0 vs => exact absurd rfl (nc _ _)
      · cases D with
        | call h vs =>
          have hk : hOk W h := bad1.mp hb
          obtain ⟨ll, ht, hll⟩ := hD1
          refine ⟨_, rfl, t, _, _, _, rfl, rfl, SqT.of ht, atI_nat (j := 0) rfl, rfl, _, rfl, ifT (by decide +kernel) ?_⟩
          refine ⟨_, rfl, _, rfl, t, _, _, _, rfl, rfl, SqT.of ht, atI_nat (j := 1) rfl, _, rfl, t, _, _, _, rfl, rfl, SqT.of ht, atI_nat (j := 2) rfl, ?_⟩
          refine ⟨B, x, W, h, ll, vs, rfl, S1.own, R, F, hk, SqL.of hll, ?_⟩
          simp only [doDeed] at k
          cases ec : doCall W h vs with
          | error e =>
            rw [ec] at k
            exact fun H2 e2 => k _ (e1.trans e2)
          | ok q =>
            obtain ⟨n, W'⟩ := q
            rw [ec] at k
            exact fun B' x' H2 xw R' S' => k B' x' H2 _ xw R' (S1.trans S') rfl
        | put h0 d s v =>
          have ht : H1 t = _ := hD1
          refine ⟨_, rfl, t, _, _, _, rfl, rfl, SqT.of ht, atI_nat (j := 0) rfl, rfl, _, rfl, ifF (by decide +kernel) ?_⟩
          exact hn _ _ ⟨(fun _ _ z => by cases z), rfl, rfl⟩
        | back h0 =>
          have ht : H1 t = _ := hD1
          refine ⟨_, rfl, t, _, _, _, rfl, rfl, SqT.of ht, atI_nat (j := 0) rfl, rfl, _, rfl, ifF (by decide +kernel) ?_⟩
          exact hn _ _ ⟨(fun _ _ z => by cases z), rfl, rfl⟩
        | branch h0 h1 =>
          have ht : H1 t = _ := hD1
          refine ⟨_, rfl, t, _, _, _, rfl, rfl, SqT.of ht, atI_nat (j := 0) rfl, rfl, _, rfl, ifF (by decide +kernel) ?_⟩
          exact hn _ _ ⟨(fun _ _ z => by cases z), rfl, rfl⟩
        | keep h0 =>
          have ht : H1 t = _ := hD1
          refine ⟨_, rfl, t, _, _, _, rfl, rfl, SqT.of ht, atI_nat (j := 0) rfl, rfl, _, rfl, ifF (by decide +kernel) ?_⟩
          exact hn _ _ ⟨(fun _ _ z => by cases z), rfl, rfl⟩
        | leap h0 pl =>
          have ht : H1 t = _ := hD1
          refine ⟨_, rfl, t, _, _, _, rfl, rfl, SqT.of ht, atI_nat (j := 0) rfl, rfl, _, rfl, ifF (by decide +kernel) ?_⟩
          exact hn _ _ ⟨(fun _ _ z => by cases z), rfl, rfl⟩
        | forget pl =>
          have ht : H1 t = _ := hD1
          refine ⟨_, rfl, t, _, _, _, rfl, rfl, SqT.of ht, atI_nat (j := 0) rfl, rfl, _, rfl, ifF (by decide +kernel) ?_⟩
          exact hn _ _ ⟨(fun _ _ z => by cases z), rfl, rfl⟩
end
end Sk
end
section
/-! SwD8: whether a wood tells all as it is to be. -/
namespace Sk
open PySem PySem.Spec PyProof.Rows L2 SW
def spIsWood (K : PySem.W.Frag) : Sp := fun vs H Q _ => ∃ (A B : Hp) (x : Ad) (y : Mx) (W : Wd), vs = [.ref x.p, .ref y.w] ∧ At K A H x W ∧ Sub B H ∧ MA B y (mw W) ∧ Small (nl W) ∧ W.marks.length ≤ 900 ∧ ∀ H', Same H H' → Q (.bl true) H'
theorem sorted_same {l ys : List Int} (s : l.Pairwise (· < ·)) (h1 : ys.Perm l) (h2 : ys.Pairwise (· ≤ ·)) : ys = l :=
  List.Perm.eq_of_pairwise (fun a b _ _ h1 h2 => Int.le_antisymm h1 h2) h2 (s.imp fun h => by omega) h1
theorem eqv_pair {K : PySem.W.Frag} {H : Hp} {l1 l2 : Addr} {u1 u2 v1 v2 : V} {n : Nat} (h1 : H l1 = some (.lst [u1, u2])) (h2 : H l2 = some (.lst [v1, v2])) (e1 : Eqv K H n u1 v1) (e2 : Eqv K H n u2 v2) : Eqv K H (n + 1) (.ref l1) (.ref l2) := by
  refine .lst n (SqL.of h1) (SqL.of h2) rfl (by show 2 ≤ 100000; omega) fun i x y q1 q2 => ?_
  match i with
  | 0 => cases q1; cases q2; exact e1
  | 1 => cases q1; cases q2; exact e2
  | j + 2 => cases q1
/-- a pile's values, the lists being the law's own -/
def csl (y : Mx) (fs : Fs) (l : List Int) : List (Addr × List Int) := l.map fun r => (y.so r, sl fs r)
theorem csl_ll {B H : Hp} {y : Mx} {W : Wd} (R : MA B y (mw W)) (s : Sub B H) {E : Addr} {l : List Int} (hl : ∀ r ∈ l, ∃ f, lk W.frames r = some f) (h : H E = some (.lst (l.map fun r => V.ref (y.so r)))) : LL H E (csl y W.frames l) := by
  refine ⟨?_, fun c hc => ?_⟩
  · unfold csl; rw [List.map_map]; exact h
  · obtain ⟨r, hr, rfl⟩ := List.mem_map.mp hc
    obtain ⟨f, hf⟩ := hl r hr
    have : lk (mw W).sl r = some (sl W.frames r) := by
      show lk (slL W.frames) r = _
      rw [lk_slL, hf, sl_of hf]; rfl
    exact s _ _ (R.ss r _ this)
theorem csl_lv {B H : Hp} {y : Mx} {W : Wd} (R : MA B y (mw W)) (s : Sub B H) {D E : Addr} {l : List Int} (hl : ∀ r ∈ l, ∃ f, lk W.frames r = some f) (h : H E = some (.lst (l.map fun r => V.ref (y.so r)))) (n : E ≠ D) (nB : B D = none) : LV H D E (l.map (sl W.frames)) ∧ ∀ cs, LL H E cs → ∀ c ∈ cs, c.1 ≠ D := by
  have soD : ∀ r ∈ l, y.so r ≠ D := fun r hr z => by
    obtain ⟨f, hf⟩ := hl r hr
    have : lk (mw W).sl r = some (sl W.frames r) := by
      show lk (slL W.frames) r = _
      rw [lk_slL, hf, sl_of hf]; rfl
    have := R.ss r _ this
    rw [z, nB] at this; cases this
  refine ⟨⟨n, _, csl_ll R s hl h, by unfold csl; rw [List.map_map]; rfl, fun c hc => ?_⟩, fun cs hcs c hc => ?_⟩
  · obtain ⟨r, hr, rfl⟩ := List.mem_map.mp hc
    exact soD r hr
  · have e := hcs.1
    rw [h] at e
    have e := HO.lst.inj (Option.some.inj e)
    have hm : V.ref c.1 ∈ cs.map fun c => V.ref c.1 := List.mem_map.mpr ⟨c, hc, rfl⟩
    rw [← e] at hm
    obtain ⟨r, hr, e2⟩ := List.mem_map.mp hm
    have : y.so r = c.1 := by injection e2
    rw [← this]; exact soD r hr
section
variable {P : Program} {w : World} {K : PySem.W.Frag} {mg : Str → Option Value} {base : Heap}
theorem ok_l_is_wood (T : Txt K mg) : FnOk P w K mg base CX0 6 (aG K "_law_is_wood") (fdOf K (aG K "_law_is_wood")) ["_law_wood_here", "_law_w"] (spIsWood K) := by
  refine T.F_l_is_wood.ok sc_l_is_wood (fun vs H Q E h => ?_) (fun cdv A outer s H vs Q E hr h => ?_)
  · obtain ⟨_, _, _, _, _, rfl, _⟩ := h; rfl
  · obtain ⟨A, B, x, y, W, rfl, I, s0, R, Sm, hm, k⟩ := h
    refine ⟨_, PSs.nox (pss_cons (ps_set (i := 2) sc_l_is_wood.nd rfl (Or.inl rfl) (pe_lst pa_nil)) (pss_cons (ps_for PassesOwn.never rfl (pi_listK K rfl (pe_callB (call_sortedDA rfl) rfl T.n_sorted (by decide +kernel) (pa_cons (pe_dget (hu_of hr) (pv 1) pe_str (fun _ _ => rfl)) pa_nil))) (pg_name (i := 3) sc_l_is_wood.nd rfl (Or.inl rfl)) (pss_one (ps_expr (pe_bm PySem.F.plainAttrs_list PySem.F.slot_list_append PySem.F.type_list_append mt_append (pv 2) (by exact (pa_cons (pe_tup (pa_cons (pv 3) (pa_cons (pe_dget (hu_of hr) (pe_dget (hu_of hr) (pv 1) pe_str (fun _ _ => rfl)) (pv 3) (fun _ _ => rfl)) (pa_cons (pe_call (ok_l_needs T) (hr.mono (by decide)) rfl T.g__law_needs T.F_l_needs.kp T.b_l_needs .nil pass0 (pa_cons (pv 1) (pa_cons (pv 3) pa_nil))) (pa_cons (pe_dget (hu_of hr) (pe_dget (hu_of hr) (pv 1) pe_str (fun _ _ => rfl)) (pv 3) (fun _ _ => rfl)) pa_nil))))) pa_nil)))))) (pss_cons (ps_if (pt_not (pt_val (pe_call (ok_l_like T 4) (hr.mono (by decide)) rfl T.g__law_like T.F_l_like.kp T.b_l_like .nil pass0 (pa_cons (pe_meth0 (pv 0) T.cl_Wood T.m_calls (ok_Wood_calls T) (hr.mono (by decide)) T.b_Wood_calls .nil pass0) (pa_cons (pv 2) pa_nil))))) (pss_one (ps_ret pe_bl)) pss_nil) (pss_cons (ps_if (pt_not (pt_val (pe_call (ok_l_like T 4) (hr.mono (by decide)) rfl T.g__law_like T.F_l_like.kp T.b_l_like .nil pass0 (pa_cons (pe_lst (pa_cons (pe_meth0 (pv 0) T.cl_Wood T.m_copies (ok_Wood_copies T) (hr.mono (by decide)) T.b_Wood_copies .nil pass0) (pa_cons (pe_meth0 (pv 0) T.cl_Wood T.m_places (ok_Wood_places T) (hr.mono (by decide)) T.b_Wood_places .nil pass0) pa_nil))) (pa_cons (pe_lst (pa_cons (pe_dget (hu_of hr) (pv 1) pe_str (fun _ _ => rfl)) (pa_cons (pe_callB (call_sortedDA rfl) rfl T.n_sorted (by decide +kernel) (pa_cons (pe_dget (hu_of hr) (pv 1) pe_str (fun _ _ => rfl)) pa_nil)) pa_nil))) pa_nil))))) (pss_one (ps_ret pe_bl)) pss_nil) (pss_cons (ps_set (i := 4) sc_l_is_wood.nd rfl (Or.inl rfl) (pe_lst pa_nil)) (pss_cons (ps_for PassesOwn.never rfl (pi_listK K rfl (pe_dget (hu_of hr) (pv 1) pe_str (fun _ _ => rfl))) (pg_name (i := 5) sc_l_is_wood.nd rfl (Or.inl rfl)) (pss_one (ps_expr (pe_bm PySem.F.plainAttrs_list PySem.F.slot_list_append PySem.F.type_list_append mt_append (pv 4) (by exact (pa_cons (pe_lc (own := [("_law_room", 3)]) (g := gName 3) rfl sc_l_is_wood.nd (pi_listK K rfl (pe_call (ok_l_pile T) (hr.mono (by decide)) rfl T.g__law_pile T.F_l_pile.kp T.b_l_pile .nil pass0 (pa_cons (pv 1) (pa_cons (pv 5) pa_nil)))) (blkOk_by (own := [("_law_room", 3)]) (N := ["_law_wood_here", "_law_w", "_law_due_here", "_law_room", "_law_piles", "_law_last", "_law_kept", "_law_place", "_law_hand"]) (sc := (defScope s_l_is_wood)) (by decide +kernel)) (fun _ _ _ _ _ => pg_name (i := 3) sc_l_is_wood.nd rfl (Or.inl rfl)) (fun _ _ _ _ _ => by exact pts_nil) (fun _ _ _ _ _ => by exact (pe_dget (hu_of hr) (pe_dget (hu_of hr) (pv 1) pe_str (fun _ _ => rfl)) (pv 3) (fun _ _ => rfl)))) pa_nil)))))) (pss_cons (ps_if (pt_not (pt_val (pe_call (ok_l_like T 4) (hr.mono (by decide)) rfl T.g__law_like T.F_l_like.kp T.b_l_like .nil pass0 (pa_cons (pe_lc (own := [("_law_hand", 8)]) (g := gName 8) rfl sc_l_is_wood.nd (pi_range1 rfl T.n_range (pa_cons (pe_meth0 (pv 0) T.cl_Wood T.m_hands (ok_Wood_hands T) (hr.mono (by decide)) T.b_Wood_hands .nil pass0) pa_nil)) (blkOk_by (own := [("_law_hand", 8)]) (N := ["_law_wood_here", "_law_w", "_law_due_here", "_law_room", "_law_piles", "_law_last", "_law_kept", "_law_place", "_law_hand"]) (sc := (defScope s_l_is_wood)) (by decide +kernel)) (fun _ _ _ _ _ => pg_name (i := 8) sc_l_is_wood.nd rfl (Or.inl rfl)) (fun _ _ _ _ _ => by exact pts_nil) (fun _ _ _ _ _ => by exact (pe_meth (pv 0) T.cl_Wood T.m_look (ok_Wood_look T) (hr.mono (by decide)) T.b_Wood_look .nil passL (pa_cons (pv 8) pa_nil)))) (pa_cons (pv 4) pa_nil))))) (pss_one (ps_ret pe_bl)) pss_nil) (pss_cons (ps_set (i := 6) sc_l_is_wood.nd rfl (Or.inl rfl) (pe_lst pa_nil)) (pss_cons (ps_for PassesOwn.never rfl (pi_listK K rfl (pe_callB (call_sortedDA rfl) rfl T.n_sorted (by decide +kernel) (pa_cons (pe_dget (hu_of hr) (pv 1) pe_str (fun _ _ => rfl)) pa_nil))) (pg_name (i := 7) sc_l_is_wood.nd rfl (Or.inl rfl)) (pss_one (ps_expr (pe_bm PySem.F.plainAttrs_list PySem.F.slot_list_append PySem.F.type_list_append mt_append (pv 6) (by exact (pa_cons (pe_lc (own := [("_law_room", 3)]) (g := gName 3) rfl sc_l_is_wood.nd (pi_listK K rfl (pe_call (ok_l_pile T) (hr.mono (by decide)) rfl T.g__law_pile T.F_l_pile.kp T.b_l_pile .nil pass0 (pa_cons (pv 1) (pa_cons (pe_dget (hu_of hr) (pe_dget (hu_of hr) (pv 1) pe_str (fun _ _ => rfl)) (pv 7) (fun _ _ => rfl)) pa_nil)))) (blkOk_by (own := [("_law_room", 3)]) (N := ["_law_wood_here", "_law_w", "_law_due_here", "_law_room", "_law_piles", "_law_last", "_law_kept", "_law_place", "_law_hand"]) (sc := (defScope s_l_is_wood)) (by decide +kernel)) (fun _ _ _ _ _ => pg_name (i := 3) sc_l_is_wood.nd rfl (Or.inl rfl)) (fun _ _ _ _ _ => by exact pts_nil) (fun _ _ _ _ _ => by exact (pe_dget (hu_of hr) (pe_dget (hu_of hr) (pv 1) pe_str (fun _ _ => rfl)) (pv 3) (fun _ _ => rfl)))) pa_nil)))))) (pss_one (ps_ret (pe_call (ok_l_like T 4) (hr.mono (by decide)) rfl T.g__law_like T.F_l_like.kp T.b_l_like .nil pass0 (pa_cons (pe_lc (own := [("_law_place", 7)]) (g := gName 7) rfl sc_l_is_wood.nd (pi_listK K rfl (pe_meth0 (pv 0) T.cl_Wood T.m_places (ok_Wood_places T) (hr.mono (by decide)) T.b_Wood_places .nil pass0)) (blkOk_by (own := [("_law_place", 7)]) (N := ["_law_wood_here", "_law_w", "_law_due_here", "_law_room", "_law_piles", "_law_last", "_law_kept", "_law_place", "_law_hand"]) (sc := (defScope s_l_is_wood)) (by decide +kernel)) (fun _ _ _ _ _ => pg_name (i := 7) sc_l_is_wood.nd rfl (Or.inl rfl)) (fun _ _ _ _ _ => by exact pts_nil) (fun _ _ _ _ _ => by exact (pe_meth (pv 0) T.cl_Wood T.m_glance (ok_Wood_glance T) (hr.mono (by decide)) T.b_Wood_glance .nil passL (pa_cons (pv 7) pa_nil)))) (pa_cons (pv 6) pa_nil)))))))))))))), ?_⟩
    have F := I.wf
    obtain ⟨m1, m2, m3, m4, m5⟩ := mwN F (by omega)
    refine ⟨by show 0 ≤ sizeLine; exact sz (by omega), fun D nD => ?_⟩
    have e1 := same_new nD (.lst [])
    have hD1 : upd H D (.lst []) D = some (.lst []) := upd_same
    generalize upd H D (.lst []) = H1 at e1 hD1
    have kl : (ks W.frames).length ≤ 40 := by rw [← len_ks]; exact F.len
    have DB := off_new s0 nD
    refine ⟨_, rfl, y.w, _, rfl, g_on (e1 _ _ (s0 _ _ R.wd)), y.oa, _, ks W.frames, rfl, .inl (e1 _ _ (s0 _ _ R.on)), ?_, by omega, fun ys q hpm hps nq => ?_⟩
    · show (mkV (onL W.frames)).map (·.1) = _
      unfold mkV onL ks; rw [List.map_map, List.map_map, List.map_map]; rfl
    have yl : ys.length ≤ 40 := by rw [hpm.length_eq]; exact kl
    have hq2 : upd H1 q (.lst (ys.map V.int)) q = some _ := upd_same
    have e2 := e1.trans (same_new nq (.lst (ys.map V.int)))
    have hD2 := same_new nq (.lst (ys.map V.int)) _ _ hD1
    generalize upd H1 q (.lst (ys.map V.int)) = H2 at hq2 e2 hD2
    have nqD : q ≠ D := fun z => by rw [z, hD1] at nq; cases nq
    refine ⟨q, rfl, ⟨_, SqL.of hq2⟩, ?_⟩
    refine for_list (K := K) (a := q) (xs := ys.map V.int) (fun i σ H' => ∃ (u3 : Option V) (ts : List CRow), σ = [some (.ref x.p), some (.ref y.w), some (.ref D), u3, none, none, none, none, none] ∧ Same H H' ∧ H' q = some (.lst (ys.map V.int)) ∧ H' D = some (.lst (ts.map fun t => V.ref t.1)) ∧ (∀ t ∈ ts, RowAt H' t) ∧ ts.map (fun t => t.2.2.1) = ys.take i ∧ (∀ t ∈ ts, lk W.frames t.2.2.1 = some t.2.2.2) ∧ ∀ t ∈ ts, t.2.1 ≠ D) ⟨none, [], rfl, e2, hq2, hD2, by simp, rfl, by simp, by simp⟩ (fun i σ H' _ ⟨_, _, _, _, e, _⟩ => SqL.of e) ?_ ?_
    · rintro i v σ H' hi ⟨u3, ts, rfl, e3, hq3, hD3, hrow, hr9, hf, hnd⟩
      obtain ⟨r, er, rfl⟩ : ∃ r, ys[i]? = some r ∧ v = V.int r := by
        rw [List.getElem?_map] at hi
        cases e : ys[i]? with
        | none => rw [e] at hi; cases hi
        | some r => rw [e] at hi; exact ⟨r, rfl, (Option.some.inj hi).symm⟩
      obtain ⟨f, ef⟩ := mem_ks.mp (hpm.subset (List.mem_of_getElem? er))
      have ls : lk (mw W).sl r = some f.slots := by
        show lk (slL W.frames) r = _
        rw [lk_slL, ef]; rfl
      have lo : lk (mw W).on r = some f.below := by
        show lk (onL W.frames) r = _
        rw [lk_onL, ef]; rfl
      have s3 : Sub B H' := fun b o e => e3 _ _ (s0 _ _ e)
      have gon : DGet H' y.oa (V.int r) (some (oV f.below)) := by
        have := DGet.k (k := Sum.inl r) (s3 _ _ R.on)
        rw [valV_mk, lo] at this; exact this
      refine ⟨_, rfl, .inl ⟨rfl, _, SqL.of hD3⟩, _, rfl, _, rfl, y.w, _, rfl, g_on (s3 _ _ R.wd), _, rfl, y.oa, _, rfl, gon, _, rfl, _, rfl, B, y, mw W, r, rfl, s3, R, m1, m2, m3, m4, m5, fun H4 e4 => ?_⟩
      rw [needs_mw F ef]
      have s4 : Sub B H4 := fun b o e => e4 _ _ (s3 _ _ e)
      have gsl : DGet H4 y.sa (V.int r) (some (.ref (y.so r))) := by
        have := DGet.k (k := Sum.inl r) (s4 _ _ R.sl)
        rw [valV_sl, ls] at this; exact this
      refine ⟨_, rfl, y.w, _, rfl, g_slots (s4 _ _ R.wd), _, rfl, y.sa, _, rfl, gsl, by show 4 ≤ sizeLine; exact sz (by omega), fun t nt => ?_⟩
      have e5 := e4.trans (same_new nt (.tup [V.int r, oV f.below, V.int f.needs, V.ref (y.so r)]))
      have lts := congrArg List.length hr9
      rw [List.length_map, List.length_take] at lts
      have hD5 := e5 _ _ hD3
      have nDt : D ≠ t := ne_of_none (e4 _ _ hD3) nt
      refine ⟨D, _, _, rfl, rfl, hD5, szl (by rw [List.length_map]; omega), ?_⟩
      have soD : y.so r ≠ D := fun z => by
        have := R.ss r _ ls
        rw [z, DB] at this; cases this
      refine ⟨_, ts ++ [(t, y.so r, r, f)], rfl, fun b o e => ?_, ?_, by rw [upd_same, List.map_append]; rfl, fun z hz => ?_, by rw [List.map_append, hr9, take_snocA er]; rfl, fun z hz => ?_, fun z hz => ?_⟩
      · rw [upd_ne (ne_of_none e nD)]; exact e5 _ _ (e3 _ _ e)
      · rw [upd_ne nqD]; exact e5 _ _ hq3
      · rcases List.mem_append.mp hz with w | w
        · obtain ⟨r1, r2⟩ := hrow z w
          have n1 : z.1 ≠ D := ne_of r1 hD3 (by intro q; cases q)
          have n2 := hnd z w
          exact ⟨by rw [upd_ne n1]; exact e5 _ _ r1, by rw [upd_ne n2]; exact e5 _ _ r2⟩
        · have : z = (t, y.so r, r, f) := by simpa using w
          subst this
          refine ⟨by rw [upd_ne nDt.symm]; exact upd_same, ?_⟩
          rw [upd_ne soD]
          exact e5 _ _ (s3 _ _ (R.ss r _ ls))
      · rcases List.mem_append.mp hz with w | w
        · exact hf z w
        · have : z = (t, y.so r, r, f) := by simpa using w
          subst this; exact ef
      · rcases List.mem_append.mp hz with w | w
        · exact hnd z w
        · have : z = (t, y.so r, r, f) := by simpa using w
          subst this; exact soD
    · rintro σ H3 ⟨u3, ts, rfl, e3, hq3, hD3, hrow, hr9, hf, _⟩
      rw [List.length_map, List.take_length] at hr9
      have Rw : Rows W ts := ⟨by rw [hr9]; exact hpm, by rw [hr9]; exact hps, hf⟩
      have I3 := I.same e3
      refine ⟨_, rfl, x.p, _, _, rfl, I3.sub _ _ I.wa.ins, wf_no (by decide +kernel), A, x, W, rfl, I3, fun H4 p4 us4 C4 Rw4 => ?_⟩
      have hEq : Eqv K H4 4 (.ref p4) (.ref D) := eqv_calls 1 C4.lst (C4.same _ _ hD3) C4.rows (fun t ht => ⟨C4.same _ _ (hrow t ht).1, C4.same _ _ (hrow t ht).2⟩) (rows_same rfl Rw4 Rw) (by rw [rows_len Rw4]; have := F.len; omega) (fun t ht => Nat.le_trans (small_slots F Sm (Rw4.2.2 t ht)) (by omega))
      refine ⟨_, rfl, .ref p4, .ref D, rfl, hEq, _, rfl, iteF ?_⟩
      have e4 := e3.trans C4.same
      clear hEq C4 Rw4 Rw hrow hr9 hf hD3 hq3 e3 hq2 hD2 e2 e1 hD1 nq nqD hpm hps yl I3
      -- copies and places
      have I4 := I.same e4
      have s4 : Sub B H4 := fun b o e => e4 _ _ (s0 _ _ e)
      refine ⟨_, rfl, x.p, _, _, rfl, I4.sub _ _ I.wa.ins, wf_no (by decide +kernel), A, x, W, rfl, I4.sub, I4.wa, _, rfl, x.p, _, _, rfl, I4.sub _ _ I.wa.ins, wf_no (by decide +kernel), A, x, W, rfl, I4, by omega, fun p5 np5 => ?_⟩
      refine ⟨by show 2 ≤ sizeLine; exact sz (by omega), fun l5 nl5 => ?_⟩
      have e5 := same_new np5 (.lst ((ks W.marks).map V.int))
      have e6 := e5.trans (same_new nl5 (.lst [V.int W.made, V.ref p5]))
      have hp6 := same_new nl5 (.lst [V.int W.made, V.ref p5]) _ _ (upd_same (H := H4) (a := p5) (o := .lst ((ks W.marks).map V.int)))
      have hl6 : upd (upd H4 p5 (.lst ((ks W.marks).map V.int))) l5 (.lst [V.int W.made, V.ref p5]) l5 = some _ := upd_same
      generalize upd (upd H4 p5 (.lst ((ks W.marks).map V.int))) l5 (.lst [V.int W.made, V.ref p5]) = H6 at e6 hp6 hl6
      refine ⟨_, rfl, y.w, _, rfl, g_made (e6 _ _ (s4 _ _ R.wd)), _, rfl, y.w, _, rfl, g_marks (e6 _ _ (s4 _ _ R.wd)), y.ma, _, ks W.marks, rfl, .inl (e6 _ _ (s4 _ _ R.mks)), ?_, by unfold ks; rw [List.length_map]; omega, fun zs q7 hpm hps nq7 => ?_⟩
      · show (mkV W.marks).map (·.1) = _
        unfold mkV ks; rw [List.map_map, List.map_map]; rfl
      have ez := sorted_same F.ms hpm hps
      subst ez
      have lks : (ks W.marks).length ≤ 900 := by unfold ks; rw [List.length_map]; exact hm
      refine ⟨by show 2 ≤ sizeLine; exact sz (by omega), fun l8 nl8 => ?_⟩
      have e7 := same_new nq7 (.lst ((ks W.marks).map V.int))
      have e8 := e7.trans (same_new nl8 (.lst [V.int (mw W).made, V.ref q7]))
      have hq8 := same_new nl8 (.lst [V.int (mw W).made, V.ref q7]) _ _ (upd_same (H := H6) (a := q7) (o := .lst ((ks W.marks).map V.int)))
      have hl8 : upd (upd H6 q7 (.lst ((ks W.marks).map V.int))) l8 (.lst [V.int (mw W).made, V.ref q7]) l8 = some _ := upd_same
      generalize upd (upd H6 q7 (.lst ((ks W.marks).map V.int))) l8 (.lst [V.int (mw W).made, V.ref q7]) = H8 at e8 hq8 hl8
      refine ⟨.ref l5, .ref l8, rfl, eqv_pair (n := 3) (e8 _ _ hl6) hl8 (.int _ _) (eqv_ints 2 (SqL.of (e8 _ _ hp6)) (SqL.of hq8) (by omega)), _, rfl, iteF ?_⟩
      have e9 := e4.trans (e6.trans e8)
      clear e5 e6 e7 e8 hp6 hl6 hq8 hl8 I4 s4 e4 np5 nl5 nq7 nl8 hpm hps
      -- the hands' piles
      refine ⟨by show 0 ≤ sizeLine; exact sz (by omega), fun G nG => ?_⟩
      have s9 : Sub B H8 := fun b o e => e9 _ _ (s0 _ _ e)
      have GB := off_new s9 nG
      have e10 := same_new nG (.lst [])
      have hG : upd H8 G (.lst []) G = some (.lst []) := upd_same
      generalize upd H8 G (.lst []) = H10 at e10 hG
      refine ⟨_, rfl, y.w, _, rfl, g_tops (e10 _ _ (s9 _ _ R.wd)), y.ta, rfl, ⟨_, SqL.of (e10 _ _ (s9 _ _ R.tp))⟩, ?_⟩
      have h6 := F.h6
      refine for_list (K := K) (a := y.ta) (xs := W.tops.map oV) (fun i σ H' => ∃ (u3 u5 : Option V) (qs : List (Addr × List (List Int))), σ = [some (.ref x.p), some (.ref y.w), some (.ref D), u3, some (.ref G), u5, none, none, none] ∧ L3 H' G qs ∧ qs.map (·.2) = (vals W).take i ∧ Same H8 H') ⟨_, _, [], rfl, ⟨hG, by simp⟩, rfl, e10⟩ (fun i σ H' _ ⟨_, _, _, _, _, _, e⟩ => SqL.of (e _ _ (s9 _ _ R.tp))) ?_ ?_
      · rintro i v σ H' hi ⟨u3, u5, qs, rfl, h1, h2, h3⟩
        obtain ⟨t, er, rfl⟩ : ∃ t, W.tops[i]? = some t ∧ v = oV t := by
          rw [List.getElem?_map] at hi
          cases e : W.tops[i]? with
          | none => rw [e] at hi; cases hi
          | some r => rw [e] at hi; exact ⟨r, rfl, (Option.some.inj hi).symm⟩
        obtain ⟨mp, ml⟩ := mpath F (.inl (List.mem_of_getElem? er))
        have hin : ∀ r ∈ path W.frames t, ∃ f, lk W.frames r = some f := (F.wf.path t (F.ref (.inl (List.mem_of_getElem? er)))).in
        have s10 : Sub B H' := fun b o e => h3 _ _ (s9 _ _ e)
        refine ⟨_, rfl, .inl ⟨rfl, _, SqL.of h1.1⟩, _, rfl, _, rfl, B, y, mw W, t, path W.frames t, rfl, s10, R, mp, by omega, fun p11 np11 => ?_⟩
        have e11 := same_new np11 (.lst ((path W.frames t).map V.int))
        have hp11 : upd H' p11 (.lst ((path W.frames t).map V.int)) p11 = some _ := upd_same
        generalize upd H' p11 (.lst ((path W.frames t).map V.int)) = H11 at e11 hp11
        refine ⟨p11, rfl, ⟨_, SqL.of hp11⟩, fun E nE => ?_⟩
        refine lc_list (K := K) (a := p11) (xs := (path W.frames t).map V.int) (fun j H' => H' E = some (.lst (((path W.frames t).take j).map fun r => V.ref (y.so r))) ∧ Same H11 H') ⟨upd_same, same_new nE _⟩ (fun j H' _ ⟨_, e⟩ => SqL.of (e _ _ hp11)) ?_ ?_
        · rintro j v H' hj ⟨q1, q3⟩
          obtain ⟨r, er2, rfl⟩ : ∃ r, (path W.frames t)[j]? = some r ∧ v = V.int r := by
            rw [List.getElem?_map] at hj
            cases e : (path W.frames t)[j]? with
            | none => rw [e] at hj; cases hj
            | some r => rw [e] at hj; exact ⟨r, rfl, (Option.some.inj hj).symm⟩
          obtain ⟨f, ef⟩ := hin r (List.mem_of_getElem? er2)
          have s11 : Sub B H' := fun b o e => q3 _ _ (e11 _ _ (s10 _ _ e))
          have gsl : DGet H' y.sa (V.int r) (some (.ref (y.so r))) := by
            have := DGet.k (k := Sum.inl r) (s11 _ _ R.sl)
            rw [valV_sl] at this
            rw [show lk (mw W).sl r = some f.slots from (by show lk (slL W.frames) r = _; rw [lk_slL, ef]; rfl)] at this; exact this
          refine ⟨rfl, yesT rfl ?_⟩
          refine ⟨_, rfl, y.w, _, rfl, g_slots (s11 _ _ R.wd), _, rfl, y.sa, _, rfl, gsl, _, q1, szl (by rw [List.length_map, List.length_take]; omega), by rw [upd_same, take_snocA er2, List.map_append]; rfl, fun b o e => by rw [upd_ne (ne_of_none e nE)]; exact q3 _ _ e⟩
        · rintro H12 ⟨q1, q3⟩
          rw [List.length_map, List.take_length] at q1
          have e12 := e11.trans q3
          have h1' := h1.up fun b o e => e12 b o e
          have nEG : E ≠ G := fun z => by rw [z] at nE; rw [e11 _ _ h1.1] at nE; cases nE
          obtain ⟨lv, lv2⟩ := csl_lv (D := G) R (fun b o e => e12 _ _ (s10 _ _ e)) hin q1 nEG GB
          have lq2 := congrArg List.length h2
          rw [List.length_map, List.length_take, len_vals] at lq2
          have hz : (vals W)[i]? = some (vl W.frames t) := by unfold vals; rw [List.getElem?_map, er]; rfl
          refine ⟨G, _, _, rfl, rfl, h1'.1, szl (by rw [List.length_map]; omega), ?_⟩
          refine ⟨_, _, _, rfl, L3.snocOld (v := vl W.frames t) h1' lv nEG lv2, by rw [List.map_append, h2, take_snocA hz]; rfl, fun b o e => by rw [upd_ne (ne_of_none e nG)]; exact e12 _ _ (h3 _ _ e)⟩
      · rintro σ H11 ⟨u3, u5, qs, rfl, h1, h2, h3⟩
        rw [List.length_map, show W.tops.length = (vals W).length from (len_vals W).symm, List.take_length] at h2
        have e11 := e9.trans h3
        have I11 := I.same e11
        have h6' : W.tops.length ≤ 6 := h6
        clear hG e10 s9 e9
        -- all looked at
        refine ⟨_, rfl, x.p, _, _, rfl, I11.sub _ _ I.wa.ins, wf_no (by decide +kernel), A, x, W, rfl, I11.sub, I11.wa, (W.tops.length : Int), rfl, by omega, by omega, fun E nE => ?_⟩
        refine lc_range (lo := 0) (n := ((W.tops.length : Nat) : Int).toNat) (fun i H' => ∃ rs : List (Addr × List (List Int)), L3 H' E rs ∧ rs.map (·.2) = (vals W).take i ∧ Same H11 H') ⟨[], ⟨upd_same, by simp⟩, rfl, same_new nE _⟩ ?_ ?_
        · rintro m H' hm2 ⟨rs, q1, q2, q3⟩
          have hk : hOk W (0 + (m : Int)) := ⟨by omega, by omega⟩
          have hz : (vals W)[m]? = some (vl W.frames (top W (0 + (m : Int)))) := by
            have := top_get hk
            rw [show (0 + (m : Int)).toNat = m by omega] at this
            unfold vals; rw [List.getElem?_map, this]; rfl
          have I12 := I11.same q3
          refine ⟨rfl, yesT rfl ?_⟩
          refine ⟨_, rfl, x.p, _, _, rfl, I12.sub _ _ I.wa.ins, wf_no (by decide +kernel), _, rfl, A, x, W, _, rfl, I12, fun _ H'' p cs N => ?_, fun hk' => absurd hk hk'⟩
          have lq2 := congrArg List.length q2
          rw [List.length_map, List.length_take] at lq2
          exact ⟨_, N.same _ _ q1.1, szl (by rw [List.length_map]; omega), _, q1.snoc (H0 := H') N, by rw [List.map_append, q2, take_snocA hz]; rfl, fun b o e => by rw [upd_ne (ne_of_none e nE)]; exact N.same _ _ (q3 b o e)⟩
        · rintro H12 ⟨rs, q1, q2, q3⟩
          have hvl : (vals W).length = ((W.tops.length : Nat) : Int).toNat := by rw [len_vals]; omega
          rw [← hvl, List.take_length] at q2
          have small : ∀ u ∈ rs, u.2.length ≤ 40 ∧ ∀ c ∈ u.2, c.length ≤ 100000 := fun u hu => by
            have hu2 : u.2 ∈ vals W := by rw [← q2]; exact List.mem_map.mpr ⟨u, hu, rfl⟩
            refine ⟨?_, fun c hc => Nat.le_trans (Sm.1 _ hu2 c hc) (by omega)⟩
            obtain ⟨z, hz, ez⟩ := List.mem_map.mp hu2
            rw [← ez]; exact vl_len F (F.ref (.inl hz))
          have lrs : rs.length ≤ 100000 := by
            have := congrArg List.length q2
            rw [List.length_map, len_vals] at this; omega
          refine ⟨_, rfl, .ref E, .ref G, rfl, eqv_l3 1 q1 (h1.up fun b o e => q3 b o e) (by rw [q2, h2]) lrs small, _, rfl, iteF ?_⟩
          have e12 := e11.trans q3
          clear small lrs q1 q2 q3 h1 h2 h3 e11 I11 nE GB nG
          -- the kept ones
          refine ⟨by show 0 ≤ sizeLine; exact sz (by omega), fun G nG => ?_⟩
          have s9 : Sub B H12 := fun b o e => e12 _ _ (s0 _ _ e)
          have GB := off_new s9 nG
          have e10 := same_new nG (.lst [])
          have hG : upd H12 G (.lst []) G = some (.lst []) := upd_same
          generalize upd H12 G (.lst []) = H13 at e10 hG
          refine ⟨_, rfl, y.w, _, rfl, g_marks (e10 _ _ (s9 _ _ R.wd)), y.ma, _, ks W.marks, rfl, .inl (e10 _ _ (s9 _ _ R.mks)), ?_, by unfold ks; rw [List.length_map]; omega, fun zs q7 hpm hps nq7 => ?_⟩
          · show (mkV W.marks).map (·.1) = _
            unfold mkV ks; rw [List.map_map, List.map_map]; rfl
          have ez := sorted_same F.ms hpm hps
          subst ez
          have e14 := e10.trans (same_new nq7 (.lst ((ks W.marks).map V.int)))
          have hG14 := same_new nq7 (.lst ((ks W.marks).map V.int)) _ _ hG
          have n7G : q7 ≠ G := fun z => by rw [z, hG] at nq7; cases nq7
          have hq14 : upd H13 q7 (.lst ((ks W.marks).map V.int)) q7 = some _ := upd_same
          generalize upd H13 q7 (.lst ((ks W.marks).map V.int)) = H14 at e14 hG14 hq14
          refine ⟨q7, rfl, ⟨_, SqL.of hq14⟩, ?_⟩
          refine for_list (K := K) (a := q7) (xs := (ks W.marks).map V.int) (fun i σ H' => ∃ (u3 u5 u7 : Option V) (w4 : Option V) (qs : List (Addr × List (List Int))), σ = [some (.ref x.p), some (.ref y.w), some (.ref D), u3, w4, u5, some (.ref G), u7, none] ∧ L3 H' G qs ∧ qs.map (·.2) = ((kept W).map (·.2)).take i ∧ Same H12 H' ∧ H' q7 = some (.lst ((ks W.marks).map V.int))) ⟨_, _, _, _, [], rfl, ⟨hG14, by simp⟩, rfl, e14, hq14⟩ (fun i σ H' _ ⟨_, _, _, _, _, _, _, _, _, e⟩ => SqL.of e) ?_ ?_
          · rintro i v σ H' hi ⟨u3, u5, u7, w4, qs, rfl, h1, h2, h3, hq7⟩
            obtain ⟨q, er, rfl⟩ : ∃ q, W.marks[i]? = some q ∧ v = V.int q.1 := by
              unfold ks at hi
              rw [List.getElem?_map, List.getElem?_map] at hi
              cases e : W.marks[i]? with
              | none => rw [e] at hi; cases hi
              | some r => rw [e] at hi; exact ⟨r, rfl, (Option.some.inj hi).symm⟩
            have hkq : SW.lk W.marks q.1 = some q.2 := mem_lk F.ndm (List.mem_of_getElem? er)
            have hqm : q.2 ∈ mv W.marks := lk_mv hkq
            obtain ⟨mp, ml⟩ := mpath F (.inr hqm)
            have hin : ∀ r ∈ path W.frames q.2, ∃ f, lk W.frames r = some f := (F.wf.path q.2 (F.ref (.inr hqm))).in
            have s10 : Sub B H' := fun b o e => h3 _ _ (s9 _ _ e)
            have gmk : DGet H' y.ma (V.int q.1) (some (oV q.2)) := by
              have := DGet.k (k := Sum.inl q.1) (s10 _ _ R.mks)
              rw [valV_mk] at this
              rw [show lk (mw W).marks q.1 = some q.2 from hkq] at this; exact this
            refine ⟨_, rfl, .inl ⟨rfl, _, SqL.of h1.1⟩, _, rfl, _, rfl, y.w, _, rfl, g_marks (s10 _ _ R.wd), _, rfl, y.ma, _, rfl, gmk, B, y, mw W, q.2, path W.frames q.2, rfl, s10, R, mp, by omega, fun p11 np11 => ?_⟩
            have e11 := same_new np11 (.lst ((path W.frames q.2).map V.int))
            have hp11 : upd H' p11 (.lst ((path W.frames q.2).map V.int)) p11 = some _ := upd_same
            generalize upd H' p11 (.lst ((path W.frames q.2).map V.int)) = H15 at e11 hp11
            refine ⟨p11, rfl, ⟨_, SqL.of hp11⟩, fun E nE => ?_⟩
            refine lc_list (K := K) (a := p11) (xs := (path W.frames q.2).map V.int) (fun j H' => H' E = some (.lst (((path W.frames q.2).take j).map fun r => V.ref (y.so r))) ∧ Same H15 H') ⟨upd_same, same_new nE _⟩ (fun j H' _ ⟨_, e⟩ => SqL.of (e _ _ hp11)) ?_ ?_
            · rintro j v H' hj ⟨q1, q3⟩
              obtain ⟨r, er2, rfl⟩ : ∃ r, (path W.frames q.2)[j]? = some r ∧ v = V.int r := by
                rw [List.getElem?_map] at hj
                cases e : (path W.frames q.2)[j]? with
                | none => rw [e] at hj; cases hj
                | some r => rw [e] at hj; exact ⟨r, rfl, (Option.some.inj hj).symm⟩
              obtain ⟨f, ef⟩ := hin r (List.mem_of_getElem? er2)
              have s11 : Sub B H' := fun b o e => q3 _ _ (e11 _ _ (s10 _ _ e))
              have gsl : DGet H' y.sa (V.int r) (some (.ref (y.so r))) := by
                have := DGet.k (k := Sum.inl r) (s11 _ _ R.sl)
                rw [valV_sl] at this
                rw [show lk (mw W).sl r = some f.slots from (by show lk (slL W.frames) r = _; rw [lk_slL, ef]; rfl)] at this; exact this
              refine ⟨rfl, yesT rfl ?_⟩
              refine ⟨_, rfl, y.w, _, rfl, g_slots (s11 _ _ R.wd), _, rfl, y.sa, _, rfl, gsl, _, q1, szl (by rw [List.length_map, List.length_take]; omega), by rw [upd_same, take_snocA er2, List.map_append]; rfl, fun b o e => by rw [upd_ne (ne_of_none e nE)]; exact q3 _ _ e⟩
            · rintro H16 ⟨q1, q3⟩
              rw [List.length_map, List.take_length] at q1
              have e16 := e11.trans q3
              have h1' := h1.up fun b o e => e16 b o e
              have nEG : E ≠ G := fun z => by rw [z] at nE; rw [e11 _ _ h1.1] at nE; cases nE
              obtain ⟨lv, lv2⟩ := csl_lv (D := G) R (fun b o e => e16 _ _ (s10 _ _ e)) hin q1 nEG GB
              have lq2 := congrArg List.length h2
              rw [List.length_map, List.length_take, List.length_map, len_kept] at lq2
              have hz : ((kept W).map (·.2))[i]? = some (vl W.frames q.2) := by unfold kept; rw [List.getElem?_map, List.getElem?_map, er]; rfl
              refine ⟨G, _, _, rfl, rfl, h1'.1, szl (by rw [List.length_map]; omega), ?_⟩
              exact ⟨_, _, _, _, _, rfl, L3.snocOld (v := vl W.frames q.2) h1' lv nEG lv2, by rw [List.map_append, h2, take_snocA hz]; rfl, fun b o e => by rw [upd_ne (ne_of_none e nG)]; exact e16 _ _ (h3 _ _ e), by rw [upd_ne n7G]; exact e16 _ _ hq7⟩
          · rintro σ H15 ⟨u3, u5, u7, w4, qs, rfl, h1, h2, h3, _⟩
            have lks : ((ks W.marks).map V.int).length = ((kept W).map (·.2)).length := by rw [List.length_map, List.length_map, len_kept]; simp [ks]
            rw [lks, List.take_length] at h2
            have e15 := e12.trans h3
            have I15 := I.same e15
            refine ⟨_, rfl, x.p, _, _, rfl, I15.sub _ _ I.wa.ins, wf_no (by decide +kernel), A, x, W, rfl, I15, by omega, fun p np => ?_⟩
            have e16 := same_new np (.lst ((ks W.marks).map V.int))
            have hp16 : upd H15 p (.lst ((ks W.marks).map V.int)) p = some _ := upd_same
            generalize upd H15 p (.lst ((ks W.marks).map V.int)) = H16 at e16 hp16
            have I16 := I15.same e16
            refine ⟨p, rfl, ⟨_, SqL.of hp16⟩, fun E nE => ?_⟩
            refine lc_list (K := K) (a := p) (xs := (ks W.marks).map V.int) (fun i H' => ∃ rs : List (Addr × List (List Int)), L3 H' E rs ∧ rs.map (·.2) = ((kept W).map (·.2)).take i ∧ Same H16 H') ⟨[], ⟨upd_same, by simp⟩, rfl, same_new nE _⟩ (fun i H' _ ⟨_, _, _, e⟩ => SqL.of (e _ _ hp16)) ?_ ?_
            · rintro j v H' hj ⟨rs, q1, q2, q3⟩
              obtain ⟨q, hq, rfl⟩ : ∃ q, W.marks[j]? = some q ∧ v = V.int q.1 := by
                unfold ks at hj
                rw [List.getElem?_map, List.getElem?_map] at hj
                cases e : W.marks[j]? with
                | none => rw [e] at hj; cases hj
                | some r => rw [e] at hj; exact ⟨r, rfl, (Option.some.inj hj).symm⟩
              have hk : SW.lk W.marks q.1 = some q.2 := mem_lk F.ndm (List.mem_of_getElem? hq)
              have I17 := I16.same q3
              refine ⟨rfl, yesT rfl ?_⟩
              refine ⟨_, rfl, x.p, _, _, rfl, I17.sub _ _ I.wa.ins, wf_no (by decide +kernel), _, rfl, A, x, W, _, rfl, I17, fun z hz H'' p2 cs N => ?_, fun hk' => by rw [hk] at hk'; cases hk'⟩
              have hz2 : ((kept W).map (·.2))[j]? = some (vl W.frames z) := by
                rw [hk] at hz; cases hz
                unfold kept; rw [List.getElem?_map, List.getElem?_map, hq]; rfl
              have lq2 := congrArg List.length q2
              rw [List.length_map, List.length_take, List.length_map, len_kept] at lq2
              exact ⟨_, N.same _ _ q1.1, szl (by rw [List.length_map]; omega), _, q1.snoc (H0 := H') N, by rw [List.map_append, q2, take_snocA hz2]; rfl, fun b o e => by rw [upd_ne (ne_of_none e nE)]; exact N.same _ _ (q3 b o e)⟩
            · rintro H17 ⟨rs, q1, q2, q3⟩
              rw [lks, List.take_length] at q2
              have e17 := e16.trans q3
              have small : ∀ u ∈ rs, u.2.length ≤ 40 ∧ ∀ c ∈ u.2, c.length ≤ 100000 := fun u hu => by
                have hu2 : u.2 ∈ (kept W).map (·.2) := by rw [← q2]; exact List.mem_map.mpr ⟨u, hu, rfl⟩
                obtain ⟨kq, hkq, ekq⟩ := List.mem_map.mp hu2
                refine ⟨?_, fun c hc => Nat.le_trans (Sm.2 _ hkq c (by rw [ekq]; exact hc)) (by omega)⟩
                rw [← ekq]
                unfold kept at hkq
                obtain ⟨mq, hmq, rfl⟩ := List.mem_map.mp hkq
                exact vl_len F (F.ref (.inr (List.mem_map.mpr ⟨mq, hmq, rfl⟩)))
              have lrs : rs.length ≤ 100000 := by
                have := congrArg List.length q2
                rw [List.length_map, List.length_map, len_kept] at this; omega
              refine ⟨_, rfl, .ref E, .ref G, rfl, eqv_l3 1 q1 (h1.up fun b o e => e17 b o e) (by rw [q2, h2]) lrs small, ?_⟩
              exact k _ (e15.trans e17)
end
end Sk
end
section
/-! SwD9: deeds to begin with; lists told are spoilt. -/
namespace Sk
open PySem PySem.Spec PyProof.Rows L2 SW
theorem fresh_kp {H H1 H' : Hp} {d b : Addr} {o u : HO} (k : Kp d H H1) (hd : H1 d = some u) (e : fresh H1 H' b = some o) : fresh H H' b = some o := by
  obtain ⟨n, e2⟩ := fresh_to e
  refine fresh_of ?_ e2
  cases q : H b with
  | none => rfl
  | some v =>
    by_cases z : b = d
    · rw [z, hd] at n; cases n
    · rw [k b v z q] at n; cases n
def spSpoil (K : PySem.W.Frag) : Sp := fun vs H Q _ => ∃ (A : Hp) (x : Ad) (W : Wd), vs = [.ref x.p] ∧ At K A H x W ∧ Small (nl W) ∧ W.marks.length ≤ 900 ∧ ∀ H', Same H H' → Q .non H'
/-- a deed to begin with -/
def Tame : Deed → Prop
  | .call h vs => h = 0 ∧ ∃ v : Int, vs = [v] ∧ 0 ≤ v ∧ v ≤ 100
  | .keep h => h = 0
  | .forget p => 0 ≤ p ∧ p ≤ 100
  | _ => False
/-- deeds, one by one -/
def DeedsAt (H : Hp) (p : Addr) (ds : List (Addr × Deed)) : Prop := H p = some (.lst (ds.map fun q => V.ref q.1)) ∧ ∀ q ∈ ds, DeedAt H q.1 q.2 ∧ q.1 ≠ p ∧ (∀ n : Int, 1 ≤ n → InD n q.2) ∧ Tame q.2
def spFirst (K : PySem.W.Frag) : Sp := fun vs H Q _ => ∃ (d a : Addr) (ns : List Int), vs = [.ref d] ∧ Dice H d a ∧ SqL K H a (ns.map V.int) ∧
  ∀ p ds H', DeedsAt (fresh H H') p ds → ds.length ≤ 60 → Dice H' d a → Kp d H H' → Q (.ref p) H'
section
variable {P : Program} {w : World} {K : PySem.W.Frag} {mg : Str → Option Value} {base : Heap}
end
end Sk
end
section
/-! SwB1: texts of deeds, plain. -/
namespace Sk
open PySem PySem.Spec PyProof.Rows L2 SW TL
def sN (n : Int) : Str := Str.ofString (toString n)
def figL : List Nat → List Nat
  | 45 :: cs => cs
  | cs => cs
def Figs (cs : List Nat) : Prop := 1 ≤ cs.length ∧ cs.length ≤ 6 ∧ ∀ c ∈ cs, 48 ≤ c ∧ c ≤ 57
instance (cs : List Nat) : Decidable (Figs cs) := inferInstanceAs (Decidable (_ ∧ _ ∧ _))
/-- the number that a word writes -/
def numOf (w : Str) : Option Int :=
  if ¬ Figs (figL (tl w)) then none
  else if (figL (tl w)).head? = some 48 ∧ tl w ≠ [48] then none
  else intText? w
theorem figL_cases (l : List Nat) : (∃ cs, l = 45 :: cs ∧ figL l = cs) ∨ ((∀ cs, l ≠ 45 :: cs) ∧ figL l = l) := by
  unfold figL
  split
  · exact .inl ⟨_, rfl, rfl⟩
  · rename_i h
    exact .inr ⟨fun cs z => h cs z, rfl⟩
theorem num_reads {w : Str} (h : Figs (figL (tl w))) : ∃ n, intText? w = some n ∧ w.length ≤ 7 := by
  obtain ⟨h1, h6, hd⟩ := h
  have lw : w.length = (tl w).length := len_tl w
  rcases figL_cases (tl w) with ⟨cs, e1, e2⟩ | ⟨_, e2⟩
  · rw [e2] at h1 h6 hd
    have l7 : w.length ≤ 7 := by rw [lw, e1, List.length_cons]; omega
    exact ⟨_, PySem.intText_neg e1 hd (fun z => by rw [z] at h1; simp at h1) (by omega), l7⟩
  · rw [e2] at h1 h6 hd
    exact ⟨_, PySem.intText_digits hd (fun z => by
      have : (tl w).length = 0 := by rw [show tl w = [] from z]; rfl
      omega) (by omega), by omega⟩
/-! ### what a number is written as -/
theorem numL_head : ∀ n : Nat, 1 ≤ n → (numL n).head? ≠ some 48 := by
  intro n
  induction n using Nat.strongRecOn with
  | _ n ih =>
    intro h1
    by_cases h : n < 10
    · rw [numL_lt h]
      intro z
      have := Option.some.inj z
      omega
    · rw [numL_step (by omega)]
      have := ih (n / 10) (by omega) (by omega)
      cases q : numL (n / 10) with
      | nil => exact absurd q (numL_ne _)
      | cons c cs => rw [q] at this; simpa using this
theorem tl_pos (m : Nat) : tl (sN (m : Int)) = numL m := tl_num m
theorem tl_neg (m : Nat) : tl (sN (-((m : Int) + 1))) = 45 :: numL (m + 1) := by
  have e : (-((m : Int) + 1)) = Int.negSucc m := by omega
  unfold sN
  rw [e, tl_ofString]
  show (("-" ++ Nat.repr (m + 1) : String).toList).map Char.toNat = _
  rw [String.toList_append, List.map_append, Nat.toList_repr]
  rfl
theorem numL_no45 (m : Nat) : ∀ cs, numL m ≠ 45 :: cs := fun cs z => by
  have := numL_digits m 45 (by rw [z]; exact List.mem_cons_self)
  omega
theorem figL_num (m : Nat) : figL (numL m) = numL m := by
  rcases figL_cases (numL m) with ⟨cs, e, _⟩ | ⟨_, e⟩
  · exact absurd e (numL_no45 m cs)
  · exact e
theorem figs_num {m : Nat} (h : m < 1000000) : Figs (numL m) := by
  refine ⟨?_, numL_len (k := 6) (by omega) h, numL_digits m⟩
  cases q : numL m with
  | nil => exact absurd q (numL_ne m)
  | cons c cs => simp
theorem numOf_sN {n : Int} (h : n.natAbs < 1000000) : numOf (sN n) = some n := by
  unfold numOf
  rcases Decidable.em (n < 0) with z | z
  · obtain ⟨m, rfl⟩ : ∃ m : Nat, n = -((m : Int) + 1) := ⟨(-n - 1).toNat, by omega⟩
    have hm : m + 1 < 1000000 := by omega
    have e2 : figL (45 :: numL (m + 1)) = numL (m + 1) := rfl
    rw [tl_neg, e2, if_neg (fun w => w (figs_num hm)), if_neg (fun w => numL_head (m + 1) (by omega) w.1)]
    have l6 := numL_len (n := m + 1) (k := 6) (by omega) hm
    rw [PySem.intText_neg (tl_neg m) (numL_digits _) (numL_ne _) (by rw [len_tl, tl_neg, List.length_cons]; omega), numL_val]
    congr 1
  · obtain ⟨m, rfl⟩ : ∃ m : Nat, n = (m : Int) := ⟨n.toNat, by omega⟩
    have hm : m < 1000000 := by omega
    have l6 := numL_len (n := m) (k := 6) (by omega) hm
    rw [tl_pos, figL_num, if_neg (fun w => w (figs_num hm)), if_neg ?_]
    · rw [PySem.intText_digits (by rw [show (sN (m : Int)).cps.toList = numL m from tl_pos m]; exact numL_digits _) (by rw [show (sN (m : Int)).cps.toList = numL m from tl_pos m]; exact numL_ne _) (by rw [len_tl, tl_pos]; omega)]
      rw [show (sN (m : Int)).cps.toList = numL m from tl_pos m, numL_val]
    · rintro ⟨w1, w2⟩
      by_cases q : m = 0
      · subst q; exact w2 rfl
      · exact numL_head m (by omega) w1
theorem sN_free (n : Int) : 32 ∉ tl (sN n) := by
  rcases Decidable.em (n < 0) with z | z
  · obtain ⟨m, rfl⟩ : ∃ m : Nat, n = -((m : Int) + 1) := ⟨(-n - 1).toNat, by omega⟩
    rw [tl_neg]
    intro w
    rcases List.mem_cons.mp w with w | w
    · omega
    · exact numL_free (.inl (by omega)) w
  · obtain ⟨m, rfl⟩ : ∃ m : Nat, n = (m : Int) := ⟨n.toNat, by omega⟩
    rw [tl_pos]; exact numL_free (.inl (by omega))
theorem sN_len {n : Int} (h : n.natAbs < 1000000) : (sN n).length ≤ 7 := by
  rw [len_tl]
  rcases Decidable.em (n < 0) with z | z
  · obtain ⟨m, rfl⟩ : ∃ m : Nat, n = -((m : Int) + 1) := ⟨(-n - 1).toNat, by omega⟩
    have := numL_len (n := m + 1) (k := 6) (by omega) (by omega)
    rw [tl_neg, List.length_cons]; omega
  · obtain ⟨m, rfl⟩ : ∃ m : Nat, n = (m : Int) := ⟨n.toNat, by omega⟩
    have := numL_len (n := m) (k := 6) (by omega) (by omega)
    rw [tl_pos]; omega
/-! ### words and numbers of a deed -/
def bl : Str := " "
def partsOf (text : Str) : List Str := Txt.split text bl
theorem spl_ne (S : List Nat) : ∀ (l : List Nat) (k : Nat) (acc : List Nat), spl S k acc l ≠ []
  | [], k, acc => by unfold spl; simp
  | c :: r, 0, acc => by
    unfold spl
    split
    · simp
    · exact spl_ne S r 0 _
  | c :: r, k + 1, acc => by
    unfold spl
    exact spl_ne S r k acc
theorem bl_tl : tl bl = 32 :: [] := by decide +kernel
theorem bl_kind : bl.cps.all (· < 256) = true := by decide +kernel
theorem parts_ne (text : Str) : partsOf text ≠ [] := fun z => by
  have h := split_spl text bl (by rw [bl_tl]; simp) (kind_ok bl_kind)
  have z : Txt.split text bl = [] := z
  rw [z] at h
  exact spl_ne _ _ _ _ h.symm
def cntN (w : Str) : Int := if w = "back" then 1 else if w = "put" then 4 else if w = "branch" then 2 else if w = "keep" then 1 else if w = "leap" then 2 else if w = "forget" then 1 else -1
/-- what a text says: its word, its numbers -/
def dOf (text : Str) : Option (Str × List Int) := match partsOf text with
  | [] => none
  | w :: ws => if none ∈ ws.map numOf then none
    else if w = "call" then (if (ws.map numOf) = [] then none else some (w, (ws.map numOf).map fun o => o.getD 0))
    else if cntN w = ((ws.map numOf).length : Int) then some (w, (ws.map numOf).map fun o => o.getD 0) else none
inductive DW : Str → List Int → Deed → Prop
  | call (h : Int) (vs : List Int) : DW "call" (h :: vs) (.call h vs)
  | back (h : Int) : DW "back" [h] (.back h)
  | put (h d s v : Int) : DW "put" [h, d, s, v] (.put h d s v)
  | branch (h o : Int) : DW "branch" [h, o] (.branch h o)
  | keep (h : Int) : DW "keep" [h] (.keep h)
  | leap (h p : Int) : DW "leap" [h, p] (.leap h p)
  | forget (p : Int) : DW "forget" [p] (.forget p)
def toD (w : Str) (ns : List Int) : Deed :=
  if w = "call" then .call (ns.getD 0 0) (ns.drop 1)
  else if w = "back" then .back (ns.getD 0 0)
  else if w = "put" then .put (ns.getD 0 0) (ns.getD 1 0) (ns.getD 2 0) (ns.getD 3 0)
  else if w = "branch" then .branch (ns.getD 0 0) (ns.getD 1 0)
  else if w = "keep" then .keep (ns.getD 0 0)
  else if w = "leap" then .leap (ns.getD 0 0) (ns.getD 1 0)
  else .forget (ns.getD 0 0)
theorem ns {a b : Str} (h : decide (a = b) = false) : a ≠ b := of_decide_eq_false h
theorem toD_DW {w : Str} {l : List Int} {D : Deed} (h : DW w l D) : toD w l = D := by
  cases h with
  | call h vs => unfold toD; rw [if_pos rfl]; rfl
  | back h => unfold toD; rw [if_neg (ns (by decide +kernel)), if_pos rfl]; rfl
  | put h d s v => unfold toD; rw [if_neg (ns (by decide +kernel)), if_neg (ns (by decide +kernel)), if_pos rfl]; rfl
  | branch h o => unfold toD; rw [if_neg (ns (by decide +kernel)), if_neg (ns (by decide +kernel)), if_neg (ns (by decide +kernel)), if_pos rfl]; rfl
  | keep h => unfold toD; rw [if_neg (ns (by decide +kernel)), if_neg (ns (by decide +kernel)), if_neg (ns (by decide +kernel)), if_neg (ns (by decide +kernel)), if_pos rfl]; rfl
  | leap h p => unfold toD; rw [if_neg (ns (by decide +kernel)), if_neg (ns (by decide +kernel)), if_neg (ns (by decide +kernel)), if_neg (ns (by decide +kernel)), if_neg (ns (by decide +kernel)), if_pos rfl]; rfl
  | forget p => unfold toD; rw [if_neg (ns (by decide +kernel)), if_neg (ns (by decide +kernel)), if_neg (ns (by decide +kernel)), if_neg (ns (by decide +kernel)), if_neg (ns (by decide +kernel)), if_neg (ns (by decide +kernel))]; rfl
theorem dw_of {w : Str} {l : List Int} (h : (w = "call" ∧ l ≠ []) ∨ (w ≠ "call" ∧ cntN w = (l.length : Int))) : DW w l (toD w l) := by
  suffices ∃ D, DW w l D by
    obtain ⟨D, hD⟩ := this
    rw [toD_DW hD]; exact hD
  rcases h with ⟨rfl, hl⟩ | ⟨hn, hc⟩
  · cases l with
    | nil => exact absurd rfl hl
    | cons h vs => exact ⟨_, .call h vs⟩
  · unfold cntN at hc
    split at hc
    · rename_i e
      subst e
      match l, hc with
      | [h], _ => exact ⟨_, .back h⟩
      | [], hc => simp at hc
      | _ :: _ :: _, hc => simp at hc; omega
    split at hc
    · rename_i e
      subst e
      match l, hc with
      | [h, d, s, v], _ => exact ⟨_, .put h d s v⟩
      | [], hc => simp at hc
      | [_], hc => simp at hc
      | [_, _], hc => simp at hc
      | [_, _, _], hc => simp at hc
      | _ :: _ :: _ :: _ :: _ :: _, hc => simp at hc; omega
    split at hc
    · rename_i e
      subst e
      match l, hc with
      | [h, o], _ => exact ⟨_, .branch h o⟩
      | [], hc => simp at hc
      | [_], hc => simp at hc
      | _ :: _ :: _ :: _, hc => simp at hc; omega
    split at hc
    · rename_i e
      subst e
      match l, hc with
      | [h], _ => exact ⟨_, .keep h⟩
      | [], hc => simp at hc
      | _ :: _ :: _, hc => simp at hc; omega
    split at hc
    · rename_i e
      subst e
      match l, hc with
      | [h, p], _ => exact ⟨_, .leap h p⟩
      | [], hc => simp at hc
      | [_], hc => simp at hc
      | _ :: _ :: _ :: _, hc => simp at hc; omega
    split at hc
    · rename_i e
      subst e
      match l, hc with
      | [p], _ => exact ⟨_, .forget p⟩
      | [], hc => simp at hc
      | _ :: _ :: _, hc => simp at hc; omega
    · omega
theorem dOf_dw {text w : Str} {l : List Int} (h : dOf text = some (w, l)) : DW w l (toD w l) := by
  refine dw_of ?_
  unfold dOf at h
  split at h
  · cases h
  · rename_i w' ws e
    split at h
    · cases h
    · split at h
      · rename_i hc
        split at h
        · cases h
        · rename_i hn
          cases h
          exact .inl ⟨hc, fun z => hn (List.map_eq_nil_iff.mp z)⟩
      · rename_i hc
        split at h
        · rename_i hn
          cases h
          exact .inr ⟨hc, by rw [List.length_map]; exact hn⟩
        · cases h
/-! ### a deed's text -/
def dWord : Deed → Str
  | .call _ _ => "call"
  | .back _ => "back"
  | .put _ _ _ _ => "put"
  | .branch _ _ => "branch"
  | .keep _ => "keep"
  | .leap _ _ => "leap"
  | .forget _ => "forget"
def dNums : Deed → List Int
  | .call h vs => h :: vs
  | .back h => [h]
  | .put h d s v => [h, d, s, v]
  | .branch h o => [h, o]
  | .keep h => [h]
  | .leap h p => [h, p]
  | .forget p => [p]
theorem dw_self (D : Deed) : DW (dWord D) (dNums D) D := by cases D <;> constructor
def dText (D : Deed) : Str := Txt.join bl (dWord D :: (dNums D).map sN)
theorem dWord_free (D : Deed) : 32 ∉ tl (dWord D) := by
  cases D with
  | call _ _ => show 32 ∉ tl ("call" : Str); decide +kernel
  | back _ => show 32 ∉ tl ("back" : Str); decide +kernel
  | put _ _ _ _ => show 32 ∉ tl ("put" : Str); decide +kernel
  | branch _ _ => show 32 ∉ tl ("branch" : Str); decide +kernel
  | keep _ => show 32 ∉ tl ("keep" : Str); decide +kernel
  | leap _ _ => show 32 ∉ tl ("leap" : Str); decide +kernel
  | forget _ => show 32 ∉ tl ("forget" : Str); decide +kernel
theorem parts_text (D : Deed) : partsOf (dText D) = dWord D :: (dNums D).map sN := by
  unfold partsOf dText
  refine split_join bl_tl bl_kind (by simp) fun p hp => ?_
  rcases List.mem_cons.mp hp with z | z
  · rw [z]; exact dWord_free D
  · obtain ⟨n, _, rfl⟩ := List.mem_map.mp z
    exact sN_free n
theorem nums_back : ∀ {l : List Int}, (∀ n ∈ l, n.natAbs < 1000000) → (l.map sN).map numOf = l.map some
  | [], _ => rfl
  | n :: l, h => by
    rw [List.map_cons, List.map_cons, List.map_cons, numOf_sN (h n List.mem_cons_self), nums_back fun m hm => h m (List.mem_cons_of_mem _ hm)]
theorem dOf_text {D : Deed} (h : ∀ n ∈ dNums D, n.natAbs < 1000000) : dOf (dText D) = some (dWord D, dNums D) := by
  unfold dOf
  rw [parts_text]
  simp only
  rw [nums_back h, if_neg (by simp)]
  have e : ((dNums D).map some).map (fun o : Option Int => o.getD 0) = dNums D := by
    rw [List.map_map]
    show List.map (fun x => x) _ = _
    exact List.map_id _
  rw [e]
  clear e h
  cases D with
  | call h vs =>
    show (if ("call" : Str) = "call" then (if (h :: vs).map some = [] then none else some (("call" : Str), h :: vs)) else _) = _
    rw [if_pos rfl, if_neg (by simp)]; rfl
  | back h => show (if ("back" : Str) = "call" then _ else if cntN "back" = 1 then some (("back" : Str), [h]) else none) = _; rw [if_neg (ns (by decide +kernel)), if_pos (by decide +kernel)]; rfl
  | put h d s v => show (if ("put" : Str) = "call" then _ else if cntN "put" = 4 then some (("put" : Str), [h, d, s, v]) else none) = _; rw [if_neg (ns (by decide +kernel)), if_pos (by decide +kernel)]; rfl
  | branch h o => show (if ("branch" : Str) = "call" then _ else if cntN "branch" = 2 then some (("branch" : Str), [h, o]) else none) = _; rw [if_neg (ns (by decide +kernel)), if_pos (by decide +kernel)]; rfl
  | keep h => show (if ("keep" : Str) = "call" then _ else if cntN "keep" = 1 then some (("keep" : Str), [h]) else none) = _; rw [if_neg (ns (by decide +kernel)), if_pos (by decide +kernel)]; rfl
  | leap h p => show (if ("leap" : Str) = "call" then _ else if cntN "leap" = 2 then some (("leap" : Str), [h, p]) else none) = _; rw [if_neg (ns (by decide +kernel)), if_pos (by decide +kernel)]; rfl
  | forget p => show (if ("forget" : Str) = "call" then _ else if cntN "forget" = 1 then some (("forget" : Str), [p]) else none) = _; rw [if_neg (ns (by decide +kernel)), if_pos (by decide +kernel)]; rfl
/-! ### what is told -/
def resT : Res → Str
  | .int n => sN n
  | .non => "done"
  | .lst [] => "none"
  | .lst (z :: zs) => Txt.join bl ((z :: zs).map sN)
/-- the answer to a text, the wood behind it -/
def ans (W : Wd) (text : Str) : Str × Wd := match dOf text with
  | none => ("BadDeed", W)
  | some (w, l) => match doDeed W (toD w l) with
    | .error e => (ern e, W)
    | .ok (r, W') => (resT r, W')
def plays : Wd → List Str → List Str × Wd
  | W, [] => ([], W)
  | W, t :: ts => ((ans W t).1 :: (plays (ans W t).2 ts).1, (plays (ans W t).2 ts).2)
theorem plays_snoc (t : Str) : ∀ (ts : List Str) (W : Wd), plays W (ts ++ [t]) = ((plays W ts).1 ++ [(ans (plays W ts).2 t).1], (ans (plays W ts).2 t).2)
  | [], W => rfl
  | u :: ts, W => by
    show plays W (u :: (ts ++ [t])) = _
    simp only [plays]
    rw [plays_snoc t ts]; rfl
/-- the answer to a deed -/
def ansD (W : Wd) (D : Deed) : Str × Wd := match doDeed W D with
  | .error e => (ern e, W)
  | .ok (r, W') => (resT r, W')
theorem ans_text (W : Wd) {D : Deed} (h : ∀ n ∈ dNums D, n.natAbs < 1000000) : ans W (dText D) = ansD W D := by
  unfold ans ansD
  rw [dOf_text h]
  simp only
  rw [toD_DW (dw_self D)]
end Sk
end
section
/-! SwKitB: rules that books want: a written dict's get, a module's text, str of a number or a text, signs of a text. -/
namespace Sk
open PySem PySem.Spec PyProof.Rows L2
/-- a module's text -/
theorem pe_cstS {X : Cx} {x z : Str} {pos : Pos} (hm : ∃ t, X.mg x = some (.str z t)) (hg : Gl X x) (hd : (x == ("__debug__" : Str)) = false := by decide) : PE X (.Name x pos) (tC (.str z)) := by
  obtain ⟨t, e⟩ := hm
  exact pe_glob hg e ⟨t, rfl⟩ hd
/-- a key that a written dict lacks -/
theorem kd_out {K : PySem.W.Frag} {w : World} {a : Addr} {ks : List Str} {z : Str} (h : He.dicW K a = some (He.keysIn w.params ks)) (hz : z ∉ ks) : PySem.W.nsIn K a z = some none := by
  obtain ⟨es, n, D⟩ := He.dicW_ok h
  have h2 : es.toList.map He.keyOf = He.keysIn w.params ks := by
    unfold He.dicW at h
    rw [D.at_] at h
    simp only at h
    split at h
    · exact Option.some.inj h
    · cases h
  have key : ∀ e ∈ es.toList, ∃ k t, e.key = .str k t ∧ k ∈ ks := fun e he => by
    have hm : He.keyOf e ∈ He.keysIn w.params ks := by rw [← h2]; exact List.mem_map.mpr ⟨e, he, rfl⟩
    unfold He.keysIn at hm
    obtain ⟨k, hk, ek⟩ := List.mem_map.mp hm
    unfold He.keyOf at ek
    split at ek
    · rename_i x t q
      have := Option.some.inj ek
      exact ⟨x, t, q, by rw [← (Prod.mk.inj this).1]; exact hk⟩
    · cases ek
  unfold PySem.W.nsIn
  rw [D.at_]
  simp only
  have e1 : es.toList.find? (fun d => d.key.isStr z) = none := by
    rw [List.find?_eq_none]
    intro e he
    obtain ⟨k, t, q, hk⟩ := key e he
    rw [q]
    show ¬ (k == z) = true
    intro w
    exact hz (by rw [← eq_of_beq w]; exact hk)
  have e2 : es.toList.any (fun d => d.refKey) = false := by
    rw [List.any_eq_false]
    intro e he
    obtain ⟨k, t, q, hk⟩ := key e he
    unfold DictEntry.refKey
    rw [q]; simp
  rw [e1, e2]; rfl
/-- d.get(z, i) of a module's dict with text keys -/
def tKGet (K : PySem.W.Frag) (d : Addr) (ty tx : TE) : TE := fun σ H Q => ty σ H fun y H1 => tx σ H1 fun x H2 => ∃ (z : Str) (r : Option Value) (v : V), y = .str z ∧ PySem.W.nsIn K d z = some r ∧ (∀ u, RelV x u → RelV v (r.getD u)) ∧ Q v H2
theorem pe_kget2 {X : Cx} (K : PySem.W.Frag) (hK : X.K = K) {g : Str} {e f : Expr} {gp apos cpos : Pos} {ty tx : TE} {d : Addr} {es : Array DictEntry} {n : Nat} (D : KDict K X.w d es n) (hg : Gl X g) (hm : X.mg g = some (.ref d)) (he : PE X e ty) (hf : PE X f tx)
    (m : M2 X (.Name g gp) "get" apos e f cpos) (hd : (g == ("__debug__" : Str)) = false := by decide) : PE X (.Call (.Attribute (.Name g gp) "get" apos) [e, f] [] cpos) (tKGet K d ty tx) := by
  subst hK
  refine ⟨fun pins s σ H Q I h => ?_⟩
  refine wpAny_Call_method m.base m.few m.line PySem.F.plainAttrs_dict PySem.F.slot_dict_get PySem.F.type_dict_get (ld_glob I hg hm ?_ hd)
  have hM := PySem.W.mapOf_K (prog := X.prog) (w := X.w) I.kIn D.at_ D.lit
  refine ⟨hM.typeIs, fun b q => ?_, ?_⟩
  · cases q
    obtain ⟨o, ho, hd⟩ := (⟨_, I.kIn _ _ D.at_, rfl⟩ : ∃ o, s.heap.get? d = some o ∧ o.dict = none)
    exact ⟨o, ho, hd⟩
  rw [m.trees]
  refine Calls.callWith_builtin rfl (Calls.evalArgs_plain (Calls.spliced_cons (thn (he.run pins s σ H _ I h) fun iv s2 ⟨y, H2, I2, ry, q2⟩ =>
    Calls.spliced_cons (thn (hf.run pins s2 σ H2 _ I2 q2) fun fv s3 ⟨x, H3, I3, rx, z, r, v, ez, en, rv, q3⟩ => Calls.spliced_nil ?_))))
  subst ez
  obtain ⟨t, rfl⟩ := ry
  have hM3 := PySem.W.mapOf_K (prog := X.prog) (w := X.w) I3.kIn D.at_ D.lit
  refine call_meetsIn PySem.F.slot_dict_get hM3.typeIs PySem.F.entry_dict_get (PySem.F.args_dict_get_3 _ _ _) (meets_dict_get_default (PySem.strKind X.prog X.w) d (PySem.strKind_is X.prog X.w z t) D.low fv) ⟨_, hM3, ?_⟩
  rw [PySem.W.find_K D.at_ en]
  exact ⟨v, H3, I3.tok _, rv fv rx, q3⟩
/-- str of a number or a text -/
theorem call_strA {X : Cx} : CallR X (.type "str") (fun xs H Q => (∃ i : Int, xs = [.int i] ∧ i.natAbs.log2 < 1920 ∧ Q (.str (toString i)) H) ∨ ∃ a, xs = [.str a] ∧ Q (.str a) H) := by
  intro pins s σ H xs us Q I r h
  rcases h with h | h
  · exact call_str_int pins s σ H xs us Q I r h
  · exact SkE.call_str_str pins s σ H xs us Q I r h
theorem log_small {n : Int} (h : n.natAbs < 1000000) : n.natAbs.log2 < 1920 := by
  rcases Nat.eq_zero_or_pos n.natAbs with z | z
  · rw [z]; decide
  · have : n.natAbs < 2 ^ 1920 := Nat.lt_of_lt_of_le h (Nat.le_trans (show 1000000 ≤ 2 ^ 20 by decide) (Nat.pow_le_pow_right (by decide) (by decide)))
    exact (Nat.log2_lt (by omega)).mpr this
end Sk
end
section
/-! SwB2: a word's number, a text's deed, walked. -/
namespace Sk
open PySem PySem.Spec PyProof.Rows L2 SW TL
/-- a text of signs, not too long -/
def UOk (w : Str) : Prop := w.length ≤ 10000 ∧ ∀ c ∈ tl w, c < 1114112
def figS (w : Str) : Str := ⟨(figL (tl w)).toArray⟩
theorem figS_tl (w : Str) : tl (figS w) = figL (tl w) := rfl
theorem figS_len (w : Str) : (figS w).length = (figL (tl w)).length := by rw [len_tl, figS_tl]
theorem tl_cut1 (z : Str) : tl (cutS z none (some 1)) = (tl z).take 1 := by
  have e1 : HT.sIx z.length 0 none = 0 := HT.sIx_none _ _
  have e2 : HT.sIx z.length z.length (some 1) = min 1 z.length := HT.sIx_nat _ _ 1
  show ((tl z).drop (HT.sIx z.length 0 none)).take (HT.sIx z.length z.length (some 1) - HT.sIx z.length 0 none) = _
  rw [e1, e2, List.drop_zero, Nat.sub_zero, len_tl]
  rcases Nat.lt_or_ge (tl z).length 1 with h | h
  · rw [Nat.min_eq_right (by omega), List.take_of_length_le (Nat.le_refl _), List.take_of_length_le (by omega)]
  · rw [Nat.min_eq_left h]
theorem tl_cut2 (z : Str) : tl (cutS z (some 1) none) = (tl z).drop 1 := by
  have e1 : HT.sIx z.length 0 (some 1) = min 1 z.length := HT.sIx_nat _ _ 1
  have e2 : HT.sIx z.length z.length none = z.length := HT.sIx_none _ _
  show ((tl z).drop (HT.sIx z.length 0 (some 1))).take (HT.sIx z.length z.length none - HT.sIx z.length 0 (some 1)) = _
  rw [e1, e2, len_tl]
  rcases Nat.lt_or_ge (tl z).length 1 with h | h
  · have : tl z = [] := List.length_eq_zero_iff.mp (by omega)
    rw [this]; rfl
  · rw [Nat.min_eq_left h, List.take_of_length_le (by rw [List.length_drop]; omega)]
theorem dash_tl : tl ("-" : Str) = [45] := by decide +kernel
theorem cut_dash (z : Str) : (cutS z none (some 1) = "-" ∧ cutS z (some 1) none = figS z) ∨ (cutS z none (some 1) ≠ "-" ∧ z = figS z) := by
  rcases figL_cases (tl z) with ⟨cs, e1, e2⟩ | ⟨e1, e2⟩
  · refine .inl ⟨ext_tl ?_, ext_tl ?_⟩
    · rw [tl_cut1, e1, dash_tl]; rfl
    · rw [tl_cut2, figS_tl, e2, e1]; rfl
  · refine .inr ⟨fun w => ?_, ext_tl (by rw [figS_tl, e2])⟩
    have h := congrArg tl w
    rw [tl_cut1, dash_tl] at h
    cases q : tl z with
    | nil => rw [q] at h; cases h
    | cons c cs =>
      rw [q] at h
      have : c = 45 := by simpa using h
      subst this
      exact e1 cs q
def isFig (c : Nat) : Bool := decide (48 ≤ c ∧ c ≤ 57)
def badL (cs : List Nat) : List Nat := cs.filter fun c => !isFig c
theorem fig_mem (c : Nat) : decide (c ∈ (("0123456789" : Str)).cps.toList) = isFig c := by
  have e : (("0123456789" : Str)).cps.toList = [48, 49, 50, 51, 52, 53, 54, 55, 56, 57] := by decide +kernel
  rw [e]
  unfold isFig
  by_cases h : 48 ≤ c ∧ c ≤ 57
  · have : c = 48 ∨ c = 49 ∨ c = 50 ∨ c = 51 ∨ c = 52 ∨ c = 53 ∨ c = 54 ∨ c = 55 ∨ c = 56 ∨ c = 57 := by omega
    rw [decide_eq_true h]
    simpa using this
  · rw [decide_eq_false h]
    simp
    omega
theorem bad_nil {cs : List Nat} : badL cs = [] ↔ ∀ c ∈ cs, 48 ≤ c ∧ c ≤ 57 := by
  unfold badL
  rw [List.filter_eq_nil_iff]
  constructor
  · intro h c hc
    have := h c hc
    unfold isFig at this
    simpa using this
  · intro h c hc
    have := h c hc
    unfold isFig
    simp
    omega
/-- one sign -/
def sgn (c : Nat) : Str := ⟨#[c]⟩
theorem lay_signs (l : List Nat) (h : ∀ c ∈ l, c < 1114112) : PyData.canLayAll0 (l.map fun c => PyData.str (sgn c)) = true ∧ PyData.depthAll (l.map fun c => PyData.str (sgn c)) ≤ 1 := by
  induction l with
  | nil => exact ⟨by simp [PyData.canLayAll0], by simp [PyData.depthAll]⟩
  | cons c l ih =>
    obtain ⟨i1, i2⟩ := ih fun x hx => h x (List.mem_cons_of_mem _ hx)
    have hc : PyData.strOk (sgn c) = true := by
      have := h c List.mem_cons_self
      unfold PyData.strOk sgn
      simp; omega
    refine ⟨?_, ?_⟩
    · rw [List.map_cons]; simp only [PyData.canLayAll0, PyData.canLay0, hc, i1]; rfl
    · rw [List.map_cons]
      have : PyData.depthAll (PyData.str (sgn c) :: l.map fun c => PyData.str (sgn c)) = max (PyData.depth (.str (sgn c))) (PyData.depthAll (l.map fun c => PyData.str (sgn c))) := by simp only [PyData.depthAll]
      rw [this]
      have : PyData.depth (.str (sgn c)) = 0 := by simp only [PyData.depth]
      omega
theorem shaped_signs (l : List Nat) (h : ∀ c ∈ l, c < 1114112) : SeqAt.shaped (.list (l.map fun c => PyData.str (sgn c))) = true := by
  obtain ⟨h1, h2⟩ := lay_signs l h
  have e1 : (PyData.list (l.map fun c => PyData.str (sgn c))).canLay0 = true := by simp only [PyData.canLay0]; exact h1
  have e2 : (PyData.list (l.map fun c => PyData.str (sgn c))).depth ≤ 64 := by
    have z : (PyData.list (l.map fun c => PyData.str (sgn c))).depth = PyData.depthAll (l.map fun c => PyData.str (sgn c)) + 1 := by simp only [PyData.depth]
    omega
  exact Bool.and_eq_true_iff.mpr ⟨e1, decide_eq_true e2⟩
theorem shaped_nil : SeqAt.shaped (.list []) = true := shaped_signs [] fun c hc => by cases hc
theorem dp_signs {K : PySem.W.Frag} {H : Hp} {p : Addr} {l : List Nat} (h : H p = some (.lst (l.map fun c => V.str (sgn c)))) : Dp K H (.ref p) (.list (l.map fun c => PyData.str (sgn c))) := by
  refine .lst (SqL.of h) ?_
  clear h
  induction l with
  | nil => exact .nil
  | cons a l ih => exact .cons (.str (sgn a)) ih
theorem dp_nil {K : PySem.W.Frag} {H : Hp} {p : Addr} (h : H p = some (.lst [])) : Dp K H (.ref p) (.list []) := .lst (SqL.of h) .nil
theorem eqv_map_nil {α : Type} (f : α → PyData) (l : List α) : PyData.eqv (.list (l.map f)) (.list []) = l.isEmpty := by
  cases l <;> rfl
def spNumberOf (K : PySem.W.Frag) : Sp := fun vs H Q _ => ∃ w : Str, vs = [.str w] ∧ UOk w ∧ ∀ H', Same H H' → Q (oV (numOf w)) H'
section
variable {P : Program} {w : World} {K : PySem.W.Frag} {mg : Str → Option Value} {base : Heap}
theorem ok_number_of (T : Txt K mg) : FnOk P w K mg base CX0 1 (aG K "number_of") (fdOf K (aG K "number_of")) ["word"] (spNumberOf K) := by
  refine T.F_number_of.ok sc_number_of (fun vs H Q E h => ?_) (fun cdv A outer s H vs Q E hr h => ?_)
  · obtain ⟨_, rfl, _⟩ := h; rfl
  · obtain ⟨wd, rfl, ⟨hw, hu⟩, k⟩ := h
    refine ⟨_, PSs.nox (pss_cons (ps_set (i := 1) sc_number_of.nd rfl (Or.inl rfl) (pe_ifExp (pt_cmpR op_eq (pe_slice sl_str (pv 0) po_none (po_some pe_int)) pe_str (nomark _)) (pe_slice sl_str (pv 0) (po_some pe_int) po_none) (pv 0))) (pss_cons (ps_if (PW.pt (pw_or (pt_not (pt_chain op_le op_le pe_int (pe_callB call_len_str rfl T.n_len PySem.boot_len (pa_cons (pv 1) pa_nil)) (pe_cst T.i_MOST_FIGURES rfl))) (pw_or1 (pt_cmpR (op_neDK K rfl hr.units) (pe_lc (own := [("sign", 2)]) (g := gName 2) rfl sc_number_of.nd (pi_str (pv 1)) (blkOk_by (own := [("sign", 2)]) (N := ["word", "figures", "sign"]) (sc := (defScope s_number_of)) (by decide +kernel)) (fun _ _ _ _ _ => pg_name (i := 2) sc_number_of.nd rfl (Or.inl rfl)) (fun _ _ _ _ _ => by exact (pts_one (pt_cmpR op_notIn_sign (pv 2) (pe_cstS T.c_FIGURES rfl) rfl))) (fun _ _ _ _ _ => by exact (pv 2))) (pe_lst pa_nil) (nomark _))))) (pss_one (ps_ret pe_non)) pss_nil) (pss_cons (ps_if (PW.pt (pw_and (pt_cmpR op_eq (pe_ix ix_str (pv 1) pe_int (fun _ _ => rfl)) pe_str (nomark _)) (pw_and1 (pt_cmpR op_ne (pv 0) pe_str (nomark _))))) (pss_one (ps_ret pe_non)) pss_nil) (pss_one (ps_ret (pe_callTy call_int_str rfl T.n_int (by decide +kernel) (pa_cons (pv 0) pa_nil))))))), ?_⟩
    have hsz : wd.length ≤ sizeLine := sz (by omega)
    have fle : (figL (tl wd)).length ≤ wd.length := by
      rw [len_tl]
      rcases figL_cases (tl wd) with ⟨cs, e1, e2⟩ | ⟨_, e2⟩
      · rw [e2, e1, List.length_cons]; omega
      · rw [e2]; exact Nat.le_refl _
    have fmem : ∀ c ∈ figL (tl wd), c < 1114112 := fun c hc => by
      rcases figL_cases (tl wd) with ⟨cs, e1, e2⟩ | ⟨_, e2⟩
      · rw [e2] at hc; exact hu c (by rw [e1]; exact List.mem_cons_of_mem _ hc)
      · rw [e2] at hc; exact hu c hc
    have fsz : (figS wd).length ≤ sizeLine := by rw [figS_len]; exact Nat.le_trans fle hsz
    -- the figures
    with_reducible refine set_split (fun v H' => v = .str (figS wd) ∧ H = H') (fun v H' hI => ?_) (fun Q1 hQ => ?_)
    · obtain ⟨rfl, rfl⟩ := hI
      refine ⟨_, rfl, figS wd, rfl, fsz, _, _, rfl, rfl, _, rfl, ?_⟩
      rw [figS_len]
      have no : ¬ Figs (figL (tl wd)) → numOf wd = none := fun z => by unfold numOf; rw [if_pos z]
      by_cases h1 : 1 ≤ (((figL (tl wd)).length : Nat) : Int)
      · rw [decide_eq_true h1]
        refine iteT ⟨_, _, rfl, rfl, _, rfl, ?_⟩
        by_cases h6 : (((figL (tl wd)).length : Nat) : Int) ≤ 6
        · rw [decide_eq_true h6]
          refine iteF ⟨_, rfl, figS wd, rfl, fun D nD => ?_⟩
          refine lc_it walk_str (fun i H' => H' D = some (.lst ((badL ((figL (tl wd)).take i)).map fun c => V.str (sgn c))) ∧ Same H' H' ∧ Same H H') ⟨upd_same, Same.refl _, same_new nD _⟩ (fun _ _ _ _ => trivial) ?_ ?_
          · rintro i x H1 H2 hi ⟨q1, _, q2⟩ ⟨rfl, c, hc, rfl⟩
            have hc : (figL (tl wd))[i]? = some c := by
              have h := hc
              rw [← Array.getElem?_toList] at h
              exact h
            have e4 : badL ((figL (tl wd)).take (i + 1)) = badL ((figL (tl wd)).take i) ++ if isFig c then [] else [c] := by
              unfold badL
              rw [take_snocC hc, List.filter_append]
              cases z : isFig c <;> simp [z]
            refine ⟨rfl, _, rfl, c, _, rfl, rfl, _, rfl, ?_⟩
            rw [fig_mem]
            cases z : isFig c with
            | true => 
              rw [z] at e4
              refine ifF rfl ⟨?_, Same.refl _, q2⟩
              rw [e4, q1]; simp
            | false =>
              rw [z] at e4
              refine ifT rfl ⟨_, rfl, _, q1, szl (by
                have := List.length_filter_le (fun c => !isFig c) ((figL (tl wd)).take i)
                rw [List.length_map]
                unfold badL
                rw [List.length_take] at this
                omega), ?_, Same.refl _, fun b o e => by rw [upd_ne (ne_of_none e nD)]; exact q2 b o e⟩
              rw [upd_same, e4, List.map_append]; rfl
          · rintro H2 ⟨q1, _, q2⟩
            have es : (figS wd).cps.size = (figL (tl wd)).length := figS_len wd
            rw [es, List.take_length] at q1
            refine ⟨by show 0 ≤ sizeLine; exact sz (by omega), fun l nl => ?_⟩
            have e3 := same_new nl (.lst [])
            have sH := q2.trans e3
            refine ⟨_, .list [], dp_signs (e3 _ _ q1), dp_nil upd_same, shaped_signs _ (fun c hc => fmem c (List.mem_filter.mp hc).1), shaped_nil, _, rfl, ?_⟩
            rw [eqv_map_nil]
            generalize upd H2 l (.lst []) = H3 at sH
            by_cases hb : badL (figL (tl wd)) = []
            · rw [hb]
              refine ifF rfl ?_
              have hF : Figs (figL (tl wd)) := ⟨by omega, by omega, bad_nil.mp hb⟩
              obtain ⟨n, hn, l7⟩ := num_reads hF
              obtain ⟨c0, cs0, ec⟩ : ∃ c0 cs0, figL (tl wd) = c0 :: cs0 := by
                cases q : figL (tl wd) with
                | nil => rw [q] at h1; simp at h1
                | cons a l => exact ⟨a, l, rfl⟩
              have at0 : atI (figS wd).cps.toList 0 = some c0 := by
                have : (figS wd).cps.toList = c0 :: cs0 := ec
                rw [this]; exact atI_nat (j := 0) rfl
              refine ⟨_, rfl, figS wd, 0, c0, rfl, rfl, fsz, at0, rfl, _, rfl, ?_⟩
              have zero_tl : tl ("0" : Str) = [48] := by decide +kernel
              have e48 : (sgn c0 = "0") ↔ c0 = 48 := by
                constructor
                · intro z
                  have := congrArg tl z
                  rw [zero_tl] at this
                  have : [c0] = [48] := this
                  simpa using this
                · intro z; subst z; exact ext_tl (by rw [zero_tl]; rfl)
              have ewd : (wd = "0") ↔ tl wd = [48] := ⟨fun z => by rw [z, zero_tl], fun z => ext_tl (by rw [z, zero_tl])⟩
              by_cases hz : c0 = 48
              · refine ifT (decide_eq_true (congrArg V.str (e48.mpr hz))) ⟨_, rfl, rfl, _, rfl, ?_⟩
                by_cases hw0 : tl wd = [48]
                · refine ifF (by rw [ewd.mpr hw0]; simp) ?_
                  refine ⟨_, rfl, wd, n, rfl, hn, by omega, ?_⟩
                  have : numOf wd = some n := by
                    unfold numOf
                    rw [if_neg (fun z => z hF), if_neg (fun z => z.2 hw0)]; exact hn
                  have kk := k H3 sH
                  rw [this] at kk; exact kk
                · refine ifT (by have : wd ≠ "0" := fun z => hw0 (ewd.mp z)
                                 simp [this]) ?_
                  have : numOf wd = none := by
                    unfold numOf
                    rw [if_neg (fun z => z hF), if_pos ⟨by rw [ec, hz]; rfl, hw0⟩]
                  have kk := k H3 sH
                  rw [this] at kk; exact kk
              · refine ifF (decide_eq_false fun z => hz (e48.mp (V.str.inj z))) ?_
                refine ifF rfl ?_
                refine ⟨_, rfl, wd, n, rfl, hn, by omega, ?_⟩
                have : numOf wd = some n := by
                  unfold numOf
                  rw [if_neg (fun z => z hF), if_neg (fun z => by
                    have := z.1
                    rw [ec] at this
                    exact hz (Option.some.inj this))]; exact hn
                have kk := k H3 sH
                rw [this] at kk; exact kk
            · refine ifT (by cases q : badL (figL (tl wd)) with
                | nil => exact absurd q hb
                | cons a l => rfl) ?_
              have kk := k H3 sH
              rw [no (fun z => hb (bad_nil.mpr z.2.2))] at kk; exact kk
        · rw [decide_eq_false h6]
          refine iteT ?_
          have kk := k H (Same.refl _)
          rw [no (fun z => h6 (by have := z.2.1; omega))] at kk; exact kk
      · rw [decide_eq_false h1]
        refine iteF ⟨_, rfl, iteT ?_⟩
        have kk := k H (Same.refl _)
        rw [no (fun z => h1 (by have := z.1; omega))] at kk; exact kk
    · refine ⟨_, rfl, 1, rfl, wd, rfl, hsz, rfl, _, rfl, ?_⟩
      rcases cut_dash wd with ⟨c1, c2⟩ | ⟨c1, c2⟩
      · refine ifT (decide_eq_true (congrArg V.str c1)) ⟨_, rfl, 1, rfl, wd, rfl, hsz, ?_⟩
        rw [c2]; exact hQ _ _ ⟨rfl, rfl⟩
      · refine ifF (decide_eq_false fun z => c1 (V.str.inj z)) ⟨_, rfl, ?_⟩
        exact hQ _ _ ⟨congrArg V.str c2, rfl⟩
end
end Sk
end
section
/-! SwB3: a text's deed, walked. -/
namespace Sk
open PySem PySem.Spec PyProof.Rows L2 SW TL
theorem spl_in (S : List Nat) : ∀ (l : List Nat) (k : Nat) (acc p : List Nat), p ∈ spl S k acc l → p.length ≤ acc.length + l.length ∧ ∀ c ∈ p, c ∈ acc ∨ c ∈ l
  | [], k, acc, p, h => by
    unfold spl at h
    rw [List.mem_singleton.mp h]
    exact ⟨by omega, fun c hc => .inl hc⟩
  | c :: r, 0, acc, p, h => by
    unfold spl at h
    split at h
    · rcases List.mem_cons.mp h with z | z
      · rw [z]; exact ⟨by omega, fun x hx => .inl hx⟩
      · obtain ⟨h1, h2⟩ := spl_in S r _ [] p z
        refine ⟨by rw [List.length_cons]; simp at h1; omega, fun x hx => ?_⟩
        rcases h2 x hx with w | w
        · cases w
        · exact .inr (List.mem_cons_of_mem _ w)
    · obtain ⟨h1, h2⟩ := spl_in S r 0 _ p h
      refine ⟨by rw [List.length_append] at h1; rw [List.length_cons]; simp at h1; omega, fun x hx => ?_⟩
      rcases h2 x hx with w | w
      · rcases List.mem_append.mp w with w | w
        · exact .inl w
        · rw [List.mem_singleton.mp w]; exact .inr List.mem_cons_self
      · exact .inr (List.mem_cons_of_mem _ w)
  | c :: r, k + 1, acc, p, h => by
    unfold spl at h
    obtain ⟨h1, h2⟩ := spl_in S r k acc p h
    refine ⟨by rw [List.length_cons]; omega, fun x hx => ?_⟩
    rcases h2 x hx with w | w
    · exact .inl w
    · exact .inr (List.mem_cons_of_mem _ w)
theorem parts_ok {text : Str} (h : UOk text) : ∀ p ∈ partsOf text, UOk p := fun p hp => by
  have e := split_spl text bl (by rw [bl_tl]; simp) (kind_ok bl_kind)
  have hm : tl p ∈ spl (tl bl) 0 [] (tl text) := by rw [← e]; exact List.mem_map.mpr ⟨p, hp, rfl⟩
  obtain ⟨h1, h2⟩ := spl_in _ _ _ _ _ hm
  refine ⟨?_, fun c hc => ?_⟩
  · have h2 := h.1
    rw [len_tl] at h2 ⊢
    have h1 : (tl p).length ≤ 0 + (tl text).length := h1
    omega
  · rcases h2 c hc with w | w
    · cases w
    · exact h.2 c w
theorem parts_len (text : Str) : (partsOf text).length ≤ text.length + 2 := by
  have := PyProof.Rows.split_le text bl
  exact this
theorem cut1N (xs : List V) : cutV xs (some 1) none = xs.drop 1 := by
  unfold cutV
  have e1 : HT.sIx xs.length 0 (some 1) = min 1 xs.length := HT.sIx_nat _ _ 1
  have e2 : HT.sIx xs.length xs.length none = xs.length := HT.sIx_none _ _
  rw [e1, e2]
  rcases Nat.lt_or_ge xs.length 1 with h | h
  · have : xs = [] := List.length_eq_zero_iff.mp (by omega)
    rw [this]; rfl
  · rw [Nat.min_eq_left h, List.take_of_length_le (by rw [List.length_drop]; omega)]
theorem inV_opts : ∀ l : List (Option Int), inV .non (l.map oV) = decide (none ∈ l) ∧ (l.map oV).all flatV = true
  | [] => ⟨rfl, rfl⟩
  | o :: l => by
    obtain ⟨h1, h2⟩ := inV_opts l
    refine ⟨?_, ?_⟩
    · show (eqV (oV o) .non || inV .non (l.map oV)) = _
      rw [h1]
      cases o with
      | none => simp [eqV, oV]
      | some n => simp [eqV, oV]
    · show (flatV (oV o) && (l.map oV).all flatV) = true
      rw [h2]
      cases o <;> rfl
theorem all_some : ∀ {l : List (Option Int)}, none ∉ l → l.map oV = (l.map fun o => o.getD 0).map V.int
  | [], _ => rfl
  | none :: l, h => absurd List.mem_cons_self h
  | some n :: l, h => by
    rw [List.map_cons, all_some fun z => h (List.mem_cons_of_mem _ z)]; rfl
theorem kd_cnt {K : PySem.W.Frag} {w : World} (TC : TxtB K w) (z : Str) : ∃ r, PySem.W.nsIn K (He.ga K "COUNTS") z = some r ∧ ∀ u, RelV (.int (-1)) u → RelV (.int (cntN z)) (r.getD u) := by
  have get : ∀ {k : Str} {n : Int}, (k, He.Dv.int n) ∈ [(("back" : Str), He.Dv.int 1), ("put", .int 4), ("branch", .int 2), ("keep", .int 1), ("leap", .int 2), ("forget", .int 1)] → cntN k = n → ∃ r, PySem.W.nsIn K (He.ga K "COUNTS") k = some r ∧ ∀ u, RelV (.int (-1)) u → RelV (.int (cntN k)) (r.getD u) := fun {k n} hm hc => by
    obtain ⟨u, e1, e2⟩ := He.valsB_ok TC.vals hm
    exact ⟨_, e1, fun _ _ => by rw [hc]; exact e2⟩
  by_cases h1 : z = "back"
  · subst h1; exact get (n := 1) (by simp) (by decide +kernel)
  by_cases h2 : z = "put"
  · subst h2; exact get (n := 4) (by simp) (by decide +kernel)
  by_cases h3 : z = "branch"
  · subst h3; exact get (n := 2) (by simp) (by decide +kernel)
  by_cases h4 : z = "keep"
  · subst h4; exact get (n := 1) (by simp) (by decide +kernel)
  by_cases h5 : z = "leap"
  · subst h5; exact get (n := 2) (by simp) (by decide +kernel)
  by_cases h6 : z = "forget"
  · subst h6; exact get (n := 1) (by simp) (by decide +kernel)
  refine ⟨none, kd_out TC.dic (fun hm => ?_), fun u hu => ?_⟩
  · unfold cntK at hm
    simp only [List.mem_cons, List.not_mem_nil, or_false] at hm
    rcases hm with q | q | q | q | q | q
    · exact h1 q
    · exact h2 q
    · exact h3 q
    · exact h4 q
    · exact h5 q
    · exact h6 q
  · have : cntN z = -1 := by
      unfold cntN
      rw [if_neg h1, if_neg h2, if_neg h3, if_neg h4, if_neg h5, if_neg h6]
    rw [this]; exact hu
def spDeedOf (K : PySem.W.Frag) : Sp := fun vs H Q _ => ∃ text : Str, vs = [.str text] ∧ UOk text ∧ (dOf text = none → ∀ H', Same H H' → Q .non H') ∧
  ∀ wd l, dOf text = some (wd, l) → ∀ t a H', Same H H' → H' t = some (.tup [.str wd, .ref a]) → H' a = some (.lst (l.map V.int)) → l.length ≤ 20000 → H t = none → H a = none → Q (.ref t) H'
section
variable {P : Program} {w : World} {K : PySem.W.Frag} {mg : Str → Option Value} {base : Heap}
theorem ok_deed_of (T : Txt K mg) (TC : TxtB K w) : FnOk P w K mg base CX0 2 (aG K "deed_of") (fdOf K (aG K "deed_of")) ["text"] (spDeedOf K) := by
  refine T.F_deed_of.ok sc_deed_of (fun vs H Q E h => ?_) (fun cdv A outer s H vs Q E hr h => ?_)
  · obtain ⟨_, rfl, _⟩ := h; rfl
  · obtain ⟨text, rfl, U, kn, ky⟩ := h
    obtain ⟨es, nn, DC⟩ := He.dicW_ok TC.dic
    refine ⟨_, PSs.nox (pss_cons (ps_set (i := 1) sc_deed_of.nd rfl (Or.inl rfl) (pe_split (pv 0) pe_str)) (pss_cons (ps_setLc (i := 2) (own := [("word", 3)]) (g := gName 3) rfl sc_deed_of.nd rfl rfl (sw_true rfl rfl rfl (by decide +kernel)) (pi_listK K rfl (pe_slice (sl_listK K rfl) (pv 1) (po_some pe_int) po_none)) (blkOk_by (own := [("word", 3)]) (N := ["text", "words", "numbers", "word"]) (sc := (defScope s_deed_of)) (by decide +kernel)) (fun _ _ _ _ _ => pg_name (i := 3) sc_deed_of.nd rfl (Or.inl rfl)) (fun _ _ _ _ _ => by exact pts_nil) (fun _ _ _ _ _ => by exact (pe_call (ok_number_of T) (hr.mono (by decide)) rfl T.g_number_of T.F_number_of.kp T.b_number_of .nil pass0 (pa_cons (pv 3) pa_nil)))) (pss_cons (ps_if (pt_cmpR (op_in_seqK K rfl) pe_non (pv 2) rfl) (pss_one (ps_ret pe_non)) pss_nil) (pss_cons (ps_if (pt_cmpR op_eq (pe_ix (ix_listK K rfl) (pv 1) pe_int (fun _ _ => rfl)) pe_str (nomark _)) (pss_one (ps_ret (pe_ifExp (pt_cmpR (op_neDK K rfl hr.units) (pv 2) (pe_lst pa_nil) (nomark _)) (pe_tup (pa_cons (pe_ix (ix_listK K rfl) (pv 1) pe_int (fun _ _ => rfl)) (pa_cons (pv 2) pa_nil))) pe_non))) pss_nil) (pss_one (ps_ret (pe_ifExp (pt_cmpR op_eq (pe_kget2 K rfl DC rfl T.g_COUNTS (pe_ix (ix_listK K rfl) (pv 1) pe_int (fun _ _ => rfl)) (pe_un un_neg pe_int) ⟨rfl, rfl, rfl, rfl⟩) (pe_callB (call_lenK K rfl) rfl T.n_len PySem.boot_len (pa_cons (pv 2) pa_nil)) (nomark _)) (pe_tup (pa_cons (pe_ix (ix_listK K rfl) (pv 1) pe_int (fun _ _ => rfl)) (pa_cons (pv 2) pa_nil))) pe_non))))))), ?_⟩
    have hsz := U.1
    have pl := parts_len text
    obtain ⟨w0, ws, ep⟩ : ∃ w0 ws, partsOf text = w0 :: ws := by
      cases q : partsOf text with
      | nil => exact absurd q (parts_ne text)
      | cons a l => exact ⟨a, l, rfl⟩
    have hws : ∀ p ∈ ws, UOk p := fun p hp => parts_ok U p (by rw [ep]; exact List.mem_cons_of_mem _ hp)
    have wl : ws.length ≤ 10001 := by rw [ep, List.length_cons] at pl; omega
    have d0 : dOf text = if none ∈ ws.map numOf then none
      else if w0 = "call" then (if (ws.map numOf) = [] then none else some (w0, (ws.map numOf).map fun o => o.getD 0))
      else if cntN w0 = ((ws.map numOf).length : Int) then some (w0, (ws.map numOf).map fun o => o.getD 0) else none := by
      unfold dOf; rw [ep]
    refine ⟨_, rfl, ⟨_, rfl⟩, text, bl, rfl, rfl, by decide +kernel, sz (by omega), fun p np => ?_⟩
    have sp : upd H p (.lst ((Txt.split text bl).map V.str)) p = some (.lst (V.str w0 :: ws.map V.str)) := by
      rw [upd_same]
      show some (HO.lst ((partsOf text).map V.str)) = _
      rw [ep]; rfl
    have e1 := same_new np (.lst ((Txt.split text bl).map V.str))
    generalize upd H p (.lst ((Txt.split text bl).map V.str)) = H1 at sp e1
    clear np
    refine ⟨_, rfl, 1, rfl, p, _, rfl, SqL.of sp, fun c nc => ?_⟩
    rw [cut1N]
    have e2 := same_new nc (.lst ((V.str w0 :: ws.map V.str).drop 1))
    have sc : upd H1 c (.lst ((V.str w0 :: ws.map V.str).drop 1)) c = some (.lst (ws.map V.str)) := upd_same
    have sp := e2 _ _ sp
    have e12 := e1.trans e2
    generalize upd H1 c (.lst ((V.str w0 :: ws.map V.str).drop 1)) = H2 at sp sc e12
    clear e1 e2 nc
    refine ⟨c, rfl, ⟨_, SqL.of sc⟩, fun D nD => ?_⟩
    refine lc_list (K := K) (a := c) (xs := ws.map V.str) (fun i H' => H' D = some (.lst (((ws.take i).map numOf).map oV)) ∧ Same H2 H') ⟨upd_same, same_new nD _⟩ (fun i H' _ ⟨_, e⟩ => SqL.of (e _ _ sc)) ?_ ?_
    · rintro i v H' hi ⟨q1, q2⟩
      obtain ⟨wd, hwd, rfl⟩ : ∃ wd, ws[i]? = some wd ∧ v = V.str wd := by
        rw [List.getElem?_map] at hi
        cases e : ws[i]? with
        | none => rw [e] at hi; cases hi
        | some r => rw [e] at hi; exact ⟨r, rfl, (Option.some.inj hi).symm⟩
      refine ⟨rfl, yesT rfl ?_⟩
      refine ⟨_, rfl, wd, rfl, hws wd (List.mem_of_getElem? hwd), fun H3 e3 => ?_⟩
      refine ⟨_, e3 _ _ q1, szl (by rw [List.length_map, List.length_map, List.length_take]; omega), by rw [upd_same, take_snocC hwd, List.map_append, List.map_append]; rfl, fun b o e => by rw [upd_ne (ne_of_none e nD)]; exact e3 _ _ (q2 b o e)⟩
    · rintro H3 ⟨q1, q2⟩
      rw [List.length_map, List.take_length] at q1
      have e13 := e12.trans q2
      have nDH : H D = none := e12.free nD
      have sp3 := q2 _ _ sp
      clear sc sp e12 q2 nD
      obtain ⟨i1, i2⟩ := inV_opts (ws.map numOf)
      refine gName_to ?_
      refine ⟨_, rfl, D, _, rfl, .inl (SqL.of q1), rfl, i2, _, rfl, ?_⟩
      rw [if_neg (by decide), i1]
      by_cases hn : none ∈ ws.map numOf
      · exact ifT (decide_eq_true hn) (kn (by rw [d0, if_pos hn]) _ e13)
      · refine ifF (decide_eq_false hn) ?_
        rw [if_neg hn] at d0
        rw [all_some hn] at q1
        generalize ens : (ws.map numOf).map (fun o => o.getD 0) = ns at q1 d0
        have nl : ns.length = ws.length := by rw [← ens, List.length_map, List.length_map]
        have e0 : (ws.map numOf = []) ↔ ns = [] := by
          constructor
          · intro z; rw [← ens, z]; rfl
          · intro z
            rw [z] at nl
            have : ws = [] := List.length_eq_zero_iff.mp (by simpa using nl.symm)
            rw [this]; rfl
        have nl2 : ((ws.map numOf).length : Int) = (ns.length : Int) := by rw [List.length_map, nl]
        rw [nl2] at d0
        have at0 : atI (V.str w0 :: ws.map V.str) 0 = some (V.str w0) := atI_nat (j := 0) rfl
        refine ⟨_, rfl, p, _, _, _, rfl, rfl, SqL.of sp3, at0, rfl, _, rfl, ?_⟩
        by_cases hc : w0 = "call"
        · rw [if_pos hc] at d0
          refine ifT (decide_eq_true (congrArg V.str hc)) ?_
          refine ⟨_, rfl, by show 0 ≤ sizeLine; exact sz (by omega), fun l nl => ?_⟩
          have e4 := same_new nl (.lst [])
          have h4 : upd H3 l (.lst []) l = some (.lst []) := upd_same
          have q4 := e4 _ _ q1
          have e14 := e13.trans e4
          have sp4 := e4 _ _ sp3
          generalize upd H3 l (.lst []) = H4 at h4 q4 e14 sp4
          refine ⟨_, .list [], dp_ints q4, dp_nil h4, shaped_ints _, shaped_nil, _, rfl, ?_⟩
          rw [eqv_map_nil]
          by_cases hz : ns = []
          · rw [if_pos (e0.mpr hz)] at d0
            refine ifF (by rw [hz]; rfl) ?_
            exact kn d0 _ e14
          · rw [if_neg (fun z => hz (e0.mp z))] at d0
            refine ifT (by cases ns with
              | nil => exact absurd rfl hz
              | cons a l => rfl) ?_
            refine ⟨_, rfl, p, _, _, _, rfl, rfl, SqL.of sp4, at0, _, rfl, by show 2 ≤ sizeLine; exact sz (by omega), fun t nt => ?_⟩
            have e5 := same_new nt (.tup [V.str w0, V.ref D])
            exact ky _ _ d0 t D _ (e14.trans e5) upd_same (e5 _ _ q4) (by omega) (e14.free nt) nDH
        · rw [if_neg hc] at d0
          refine ifF (decide_eq_false fun z => hc (V.str.inj z)) ?_
          obtain ⟨r, er, hr2⟩ := kd_cnt TC w0
          refine ⟨_, rfl, p, _, _, _, rfl, rfl, SqL.of sp3, at0, 1, rfl, w0, r, .int (cntN w0), rfl, er, hr2, _, rfl, D, _, rfl, .inl (SqL.of q1), rfl, _, rfl, ?_⟩
          rw [List.length_map]
          by_cases hz : cntN w0 = (ns.length : Int)
          · rw [if_pos hz] at d0
            refine ifT (decide_eq_true (congrArg V.int hz)) ?_
            refine ⟨_, rfl, p, _, _, _, rfl, rfl, SqL.of sp3, at0, _, rfl, by show 2 ≤ sizeLine; exact sz (by omega), fun t nt => ?_⟩
            have e5 := same_new nt (.tup [V.str w0, V.ref D])
            exact ky _ _ d0 t D _ (e13.trans e5) upd_same (e5 _ _ q1) (by omega) (e13.free nt) nDH
          · rw [if_neg hz] at d0
            refine ifF (decide_eq_false fun z => hz (V.int.inj z)) ?_
            exact kn d0 _ e13
end
end Sk
end
section
/-! SwB4: a deed of a book done, walked. -/
namespace Sk
open PySem PySem.Spec PyProof.Rows L2 SW TL
/-! ### all lists at the bottom -/
def AllN (p : List Int → Prop) (N : Nl) : Prop := (∀ v ∈ N.piles, ∀ c ∈ v, p c) ∧ ∀ q ∈ N.kept, ∀ c ∈ q.2, p c
theorem AllN.pile {p : List Int → Prop} {N : Nl} (S : AllN p N) (h : Int) : ∀ c ∈ pile N h, p c := by
  unfold Sk.pile
  rw [List.getD_eq_getElem?_getD]
  cases e : N.piles[h.toNat]? with
  | none => simp
  | some v => exact S.1 v (List.mem_of_getElem? e)
theorem AllN.set {p : List Int → Prop} {N : Nl} (S : AllN p N) (i : Nat) {z : List (List Int)} (hz : ∀ c ∈ z, p c) : AllN p { N with piles := N.piles.set i z } :=
  ⟨fun v hv => by
    rcases mem_set hv with q | q
    · rw [q]; exact hz
    · exact S.1 v q, S.2⟩
def Nums (c : List Int) : Prop := ∀ z ∈ c, z.natAbs < 1000000
theorem AllN.did {W W' : Wd} {D : Deed} {r : Res} (S : AllN Nums (nl W)) (F : WFW W) (hD : Nums (dNums D)) (ed : doDeed W D = .ok (r, W')) : AllN Nums (nl W') := by
  obtain ⟨d, _, _⟩ := did_ok F ed
  rw [d.nl]
  cases D with
  | call h vs =>
    refine S.set _ fun c hc => ?_
    rcases List.mem_cons.mp hc with q | q
    · rw [q]; exact fun z hz => hD z (List.mem_cons_of_mem _ hz)
    · exact S.pile h c q
  | back h => exact S.set _ fun c hc => S.pile h c (List.mem_of_mem_drop hc)
  | put h dd s v =>
    refine S.set _ fun c hc => ?_
    rcases mem_set hc with q | q
    · rw [q]
      intro z hz
      rcases mem_set hz with y | y
      · rw [y]; exact hD v (by simp [dNums])
      · rw [List.getD_eq_getElem?_getD] at y
        cases e : (Sk.pile (nl W) h)[dd.toNat]? with
        | none => rw [e] at y; simp at y
        | some u => rw [e] at y; exact S.pile h u (List.mem_of_getElem? e) z y
    · exact S.pile h c q
  | branch h o => exact S.set _ fun c hc => S.pile h c hc
  | keep h =>
    refine ⟨S.1, fun q hq => ?_⟩
    rcases List.mem_append.mp hq with z | z
    · exact S.2 q z
    · have : q = ((nl W).many, Sk.pile (nl W) h) := by simpa using z
      subst this; exact S.pile h
  | leap h p =>
    refine S.set _ fun c hc => ?_
    cases e : lk (nl W).kept p with
    | none => rw [e] at hc; simp at hc
    | some u => rw [e] at hc; exact S.2 _ (lk_mem e) c hc
  | forget p => exact ⟨S.1, fun q hq => S.2 q (List.mem_filter.mp hq).1⟩
/-- a wood whose numbers can be told -/
structure Fit (W : Wd) : Prop where
  small : Small (nl W)
  nums : AllN Nums (nl W)
  many : W.many ≤ 900
  marks : W.marks.length ≤ 900
theorem mem_vals {W : Wd} {h : Int} (k : hOk W h) : vl W.frames (top W h) ∈ (nl W).piles := List.mem_map.mpr ⟨top W h, top_mem k, rfl⟩
theorem res_fit {W W' : Wd} {D : Deed} {r : Res} (F : WFW W) (T : Fit W) (e : doDeed W D = .ok (r, W')) : (∀ n, r = .int n → n.natAbs < 1000000) ∧ ∀ zs, r = .lst zs → zs.length ≤ 3 ∧ Nums zs := by
  cases D with
  | call h vs =>
    cases q : doCall W h vs with
    | error x => simp only [doDeed, q, okM] at e; cases e
    | ok y =>
      obtain ⟨n, W1⟩ := y
      simp only [doDeed, q, okM, Except.ok.injEq, Prod.mk.injEq] at e
      obtain ⟨e1, _⟩ := e
      subst e1
      refine ⟨fun m z => ?_, fun zs z => by cases z⟩
      cases z
      unfold doCall at q
      split at q
      · cases q
      split at q
      · cases q
      split at q
      · cases q
      rename_i h3
      have := newRoom_in F.wf.nd F.rng (by omega)
      have e2 : newRoom W.rooms W.frames = n := congrArg Prod.fst (Except.ok.inj q)
      rw [e2] at this
      have := (mem_freeR.mp this).1
      have := F.r40
      omega
  | back h =>
    obtain ⟨dd, _, _⟩ := did_ok F e
    obtain ⟨vs, t, e1, e2⟩ := dd.back h rfl
    refine ⟨fun n z => (by rw [e1] at z; cases z), fun zs z => ?_⟩
    rw [e1] at z; cases z
    have hm : vs ∈ Sk.pile (nl W) h := by rw [e2]; exact List.mem_cons_self
    exact ⟨small_pile T.small h _ hm, T.nums.pile h _ hm⟩
  | put h d s v =>
    cases q : doPut W h d s v with
    | error x => simp only [doDeed, q, okM] at e; cases e
    | ok y =>
      obtain ⟨n, W1⟩ := y
      simp only [doDeed, q, okM, Except.ok.injEq, Prod.mk.injEq] at e
      obtain ⟨e1, _⟩ := e
      subst e1
      refine ⟨fun m z => ?_, fun zs z => by cases z⟩
      cases z
      have P := doPut_ok F q
      obtain ⟨i, ns, h1, h2, _⟩ := P.pth
      have := vl_len F (F.topIn h)
      have := P.dl
      omega
  | branch h o =>
    cases q : doBranch W h o with
    | error x => simp only [doDeed, q, okM] at e; cases e
    | ok y =>
      simp only [doDeed, q, okM, Except.ok.injEq, Prod.mk.injEq] at e
      obtain ⟨e1, _⟩ := e
      subst e1
      exact ⟨fun m z => by (cases z), fun zs z => by cases z⟩
  | keep h =>
    cases q : doKeep W h with
    | error x => simp only [doDeed, q, okM] at e; cases e
    | ok y =>
      obtain ⟨n, W1⟩ := y
      simp only [doDeed, q, okM, Except.ok.injEq, Prod.mk.injEq] at e
      obtain ⟨e1, _⟩ := e
      subst e1
      refine ⟨fun m z => ?_, fun zs z => by cases z⟩
      cases z
      obtain ⟨_, e3, _⟩ := doKeep_ok F q
      have := T.many
      have := F.m0
      omega
  | leap h p =>
    cases q : doLeap W h p with
    | error x => simp only [doDeed, q, okM] at e; cases e
    | ok y =>
      simp only [doDeed, q, okM, Except.ok.injEq, Prod.mk.injEq] at e
      obtain ⟨e1, _⟩ := e
      subst e1
      exact ⟨fun m z => by (cases z), fun zs z => by cases z⟩
  | forget p =>
    cases q : doForget W p with
    | error x => simp only [doDeed, q, okM] at e; cases e
    | ok y =>
      simp only [doDeed, q, okM, Except.ok.injEq, Prod.mk.injEq] at e
      obtain ⟨e1, _⟩ := e
      subst e1
      exact ⟨fun m z => by (cases z), fun zs z => by cases z⟩
theorem join_size (zs : List Int) (h : Nums zs) (hl : zs.length ≤ 1000) : ((zs.map sN).map (·.length)).sum + (zs.map sN).length * bl.length ≤ 16777216 := by
  have hb : bl.length = 1 := by decide +kernel
  rw [hb, List.length_map]
  have key : ∀ l : List Int, Nums l → ((l.map sN).map (·.length)).sum ≤ 7 * l.length := by
    intro l
    induction l with
    | nil => intro _; exact Nat.le_refl _
    | cons a l ih =>
      intro hn
      have h1 := sN_len (hn a List.mem_cons_self)
      have h2 := ih fun z hz => hn z (List.mem_cons_of_mem _ hz)
      rw [List.map_cons, List.map_cons, List.sum_cons, List.length_cons]
      omega
  have := key zs h
  omega
def spDone (K : PySem.W.Frag) : Sp := fun vs H Q E => ∃ (A : Hp) (x : Ad) (W : Wd) (wd : Str) (l : Addr) (ns : List Int) (D : Deed), vs = [.ref x.p, .str wd, .ref l] ∧ At K A H x W ∧ SqL K H l (ns.map V.int) ∧ DW wd ns D ∧ Fit W ∧
  match doDeed W D with
  | .error e => Ref K H E e
  | .ok (r, W') => Then K A H x W' (Q (.str (resT r)))
section
variable {P : Program} {w : World} {K : PySem.W.Frag} {mg : Str → Option Value} {base : Heap}
theorem ok_done (T : Txt K mg) : FnOk P w K mg base (L2.CX P w) 5 (aG K "done") (fdOf K (aG K "done")) ["wood", "word", "numbers"] (spDone K) := by
  refine T.F_done.ok (CX := L2.CX P w) sc_done (fun vs H Q E h => ?_) (fun cdv A outer s H vs Q E hr h => ?_)
  · obtain ⟨_, _, _, _, _, _, _, rfl, _⟩ := h; rfl
  · obtain ⟨A, x, W, wd, l, ns, D, rfl, I, hs, hD, ft, k⟩ := h
    refine ⟨_, (pss_cons (ps_if (pt_cmpR op_eq (pv 1) pe_str (nomark _)) (pss_one (ps_ret (pe_callTy call_str_int rfl T.n_str (by decide +kernel) (pa_cons (pe_meth (pv 0) T.cl_Wood T.m_call (ok_Wood_call T) (hr.mono (by decide)) T.b_Wood_call .nil (passes_call (takes_of rfl rfl rfl rfl) (fun _ _ _ _ h => h)) (pa_cons (pe_ix (ix_listK K rfl) (pv 2) pe_int (fun _ _ => rfl)) (pa_cons (pe_slice (sl_listK K rfl) (pv 2) (po_some pe_int) po_none) pa_nil))) pa_nil)))) pss_nil) (pss_cons (ps_if (pt_cmpR op_eq (pv 1) pe_str (nomark _)) (pss_cons (ps_set (i := 3) sc_done.nd rfl (Or.inl rfl) (pe_meth (pv 0) T.cl_Wood T.m_back (ok_Wood_back T) (hr.mono (by decide)) T.b_Wood_back .nil (passes_call (takes_of rfl rfl rfl rfl) (fun _ _ _ _ h => h)) (pa_cons (pe_ix (ix_listK K rfl) (pv 2) pe_int (fun _ _ => rfl)) pa_nil))) (pss_one (ps_ret (pe_ifExp (pt_cmpR (op_neDK K rfl hr.units) (pv 3) (pe_lst pa_nil) (nomark _)) (pe_join pe_str (pe_lc (own := [("value", 4)]) (g := gName 4) rfl sc_done.nd (pi_listK K rfl (pv 3)) (blkOk_by (own := [("value", 4)]) (N := ["wood", "word", "numbers", "values", "value"]) (sc := (defScope s_done)) (by decide +kernel)) (fun _ _ _ _ _ => pg_name (i := 4) sc_done.nd rfl (Or.inl rfl)) (fun _ _ _ _ _ => by exact pts_nil) (fun _ _ _ _ _ => by exact (pe_callTy call_str_int rfl T.n_str (by decide +kernel) (pa_cons (pv 4) pa_nil))))) pe_str)))) pss_nil) (pss_cons (ps_if (pt_cmpR op_eq (pv 1) pe_str (nomark _)) (pss_one (ps_ret (pe_callTy call_str_int rfl T.n_str (by decide +kernel) (pa_cons (pe_meth (pv 0) T.cl_Wood T.m_put (ok_Wood_put T) (hr.mono (by decide)) T.b_Wood_put .nil (passes_call (takes_of rfl rfl rfl rfl) (fun _ _ _ _ h => h)) (pa_cons (pe_ix (ix_listK K rfl) (pv 2) pe_int (fun _ _ => rfl)) (pa_cons (pe_ix (ix_listK K rfl) (pv 2) pe_int (fun _ _ => rfl)) (pa_cons (pe_ix (ix_listK K rfl) (pv 2) pe_int (fun _ _ => rfl)) (pa_cons (pe_ix (ix_listK K rfl) (pv 2) pe_int (fun _ _ => rfl)) pa_nil))))) pa_nil)))) pss_nil) (pss_cons (ps_if (pt_cmpR op_eq (pv 1) pe_str (nomark _)) (pss_one (ps_ret (pe_callTy call_str_int rfl T.n_str (by decide +kernel) (pa_cons (pe_meth (pv 0) T.cl_Wood T.m_keep (ok_Wood_keep T) (hr.mono (by decide)) T.b_Wood_keep .nil (passes_call (takes_of rfl rfl rfl rfl) (fun _ _ _ _ h => h)) (pa_cons (pe_ix (ix_listK K rfl) (pv 2) pe_int (fun _ _ => rfl)) pa_nil)) pa_nil)))) pss_nil) (pss_cons (ps_if (pt_cmpR op_eq (pv 1) pe_str (nomark _)) (pss_one (ps_expr (pe_meth (pv 0) T.cl_Wood T.m_branch (ok_Wood_branch T) (hr.mono (by decide)) T.b_Wood_branch .nil (passes_call (takes_of rfl rfl rfl rfl) (fun _ _ _ _ h => h)) (pa_cons (pe_ix (ix_listK K rfl) (pv 2) pe_int (fun _ _ => rfl)) (pa_cons (pe_ix (ix_listK K rfl) (pv 2) pe_int (fun _ _ => rfl)) pa_nil))))) (pss_one (ps_if (pt_cmpR op_eq (pv 1) pe_str (nomark _)) (pss_one (ps_expr (pe_meth (pv 0) T.cl_Wood T.m_leap (ok_Wood_leap T) (hr.mono (by decide)) T.b_Wood_leap .nil (passes_call (takes_of rfl rfl rfl rfl) (fun _ _ _ _ h => h)) (pa_cons (pe_ix (ix_listK K rfl) (pv 2) pe_int (fun _ _ => rfl)) (pa_cons (pe_ix (ix_listK K rfl) (pv 2) pe_int (fun _ _ => rfl)) pa_nil))))) (pss_one (ps_expr (pe_meth (pv 0) T.cl_Wood T.m_forget (ok_Wood_forget T) (hr.mono (by decide)) T.b_Wood_forget .nil (passes_call (takes_of rfl rfl rfl rfl) (fun _ _ _ _ h => h)) (pa_cons (pe_ix (ix_listK K rfl) (pv 2) pe_int (fun _ _ => rfl)) pa_nil))))))) (pss_one (ps_ret pe_str))))))), ?_⟩
    have s0 := I.sub
    have hp := s0 _ _ I.wa.ins
    cases D with
    | call h zs =>
      cases hD
      refine ⟨_, rfl, rfl, _, rfl, ifT (by decide +kernel) ?_⟩
      refine ⟨_, rfl, x.p, _, _, rfl, hp, wf_no (by decide +kernel), _, rfl, l, _, _, _, rfl, rfl, hs, atI_nat (j := 0) rfl, _, rfl, 1, rfl, l, _, rfl, hs, fun l2 nl2 => ?_⟩
      rw [cut1N]
      have e1 := same_new nl2 (.lst (((h :: zs).map V.int).drop 1))
      refine ⟨A, x, W, h, l2, zs, rfl, ⟨((Stp.refl s0).same e1).own, I.wa, I.wf⟩, SqL.of upd_same, ?_⟩
      have rf := fun r W' => res_fit (W := W) (W' := W') (D := .call h zs) (r := r) I.wf ft
      simp only [doDeed] at k rf
      cases ec : doCall W h zs with
      | error e => rw [ec] at k; exact fun H' e2 => k H' (e1.trans e2)
      | ok r =>
        obtain ⟨r, W'⟩ := r
        rw [ec] at k rf
        intro A' x' H' hx R' S'
        exact ⟨r, rfl, log_small ((rf _ _ rfl).1 r rfl), k A' x' H' hx R' (((Stp.refl s0).same e1).trans S')⟩
    | back h =>
      cases hD
      refine ⟨_, rfl, rfl, _, rfl, ifF (by decide +kernel) ?_⟩
      refine ⟨_, rfl, rfl, _, rfl, ifT (by decide +kernel) ?_⟩
      refine ⟨_, rfl, x.p, _, _, rfl, hp, wf_no (by decide +kernel), _, rfl, l, _, _, _, rfl, rfl, hs, atI_nat (j := 0) rfl, ?_⟩
      refine ⟨A, x, W, h, rfl, I, ?_⟩
      have rf := fun r W' => res_fit (W := W) (W' := W') (D := .back h) (r := r) I.wf ft
      simp only [doDeed] at k rf
      cases ec : doBack W h with
      | error e => rw [ec] at k; exact k
      | ok r =>
        obtain ⟨zs, W'⟩ := r
        rw [ec] at k rf
        intro l1 nl1 A' x' H' hx R' S' nA hl1
        obtain ⟨z3, zn⟩ := (rf _ _ rfl).2 zs rfl
        refine gName_to ?_
        refine ⟨_, rfl, by show 0 ≤ sizeLine; exact sz (by omega), fun l2 nl2 => ?_⟩
        have e2 := same_new nl2 (.lst [])
        have hl2 := e2 _ _ hl1
        refine ⟨_, .list [], dp_ints hl2, dp_nil upd_same, shaped_ints _, shaped_nil, _, rfl, ?_⟩
        rw [eqv_map_nil]
        have S2 := S'.same e2
        generalize upd H' l2 (.lst []) = H2 at hl2 S2
        cases zs with
        | nil => exact ifF rfl (k A' x' H2 hx R' S2)
        | cons z0 zs =>
          refine ifT rfl ⟨⟨_, rfl⟩, _, rfl, l1, rfl, ⟨_, SqL.of hl2⟩, fun Dd nD => ?_⟩
          refine lc_list (K := K) (a := l1) (xs := (z0 :: zs).map V.int) (fun i H' => H' Dd = some (.lst ((((z0 :: zs).take i).map sN).map V.str)) ∧ Same H2 H') ⟨upd_same, same_new nD _⟩ (fun i H' _ ⟨_, e⟩ => SqL.of (e _ _ hl2)) ?_ ?_
          · rintro i v H' hi ⟨q1, q2⟩
            obtain ⟨z, hz, rfl⟩ : ∃ z, (z0 :: zs)[i]? = some z ∧ v = V.int z := by
              rw [List.getElem?_map] at hi
              cases e : (z0 :: zs)[i]? with
              | none => rw [e] at hi; cases hi
              | some r => rw [e] at hi; exact ⟨r, rfl, (Option.some.inj hi).symm⟩
            refine ⟨rfl, yesT rfl ?_⟩
            refine ⟨_, rfl, z, rfl, log_small (zn z (List.mem_of_getElem? hz)), ?_⟩
            exact ⟨_, q1, szl (by rw [List.length_map, List.length_map, List.length_take]; omega), by rw [upd_same, take_snocC hz, List.map_append, List.map_append]; rfl, fun b o e => by rw [upd_ne (ne_of_none e nD)]; exact q2 b o e⟩
          · rintro H3 ⟨q1, q2⟩
            rw [List.length_map, List.take_length] at q1
            refine ⟨bl, Dd, (z0 :: zs).map sN, rfl, rfl, .inl (SqL.of q1), join_size _ zn (by omega), ?_⟩
            exact k A' x' H3 hx R' (S2.same q2)
    | put h d sl1 v =>
      cases hD
      refine ⟨_, rfl, rfl, _, rfl, ifF (by decide +kernel) ?_⟩
      refine ⟨_, rfl, rfl, _, rfl, ifF (by decide +kernel) ?_⟩
      refine ⟨_, rfl, rfl, _, rfl, ifT (by decide +kernel) ?_⟩
      refine ⟨_, rfl, x.p, _, _, rfl, hp, wf_no (by decide +kernel), _, rfl, l, _, _, _, rfl, rfl, hs, atI_nat (j := 0) rfl, _, rfl, l, _, _, _, rfl, rfl, hs, atI_nat (j := 1) rfl, _, rfl, l, _, _, _, rfl, rfl, hs, atI_nat (j := 2) rfl, _, rfl, l, _, _, _, rfl, rfl, hs, atI_nat (j := 3) rfl, ?_⟩
      refine ⟨A, x, W, h, d, sl1, v, rfl, I, ?_⟩
      have rf := fun r W' => res_fit (W := W) (W' := W') (D := .put h d sl1 v) (r := r) I.wf ft
      simp only [doDeed] at k rf
      cases ec : doPut W h d sl1 v with
      | error e => rw [ec] at k; exact k
      | ok r =>
        obtain ⟨n, W'⟩ := r
        rw [ec] at k rf
        intro A' x' H' hx R' S'
        exact ⟨n, rfl, log_small ((rf _ _ rfl).1 n rfl), k A' x' H' hx R' S'⟩
    | keep h =>
      cases hD
      refine ⟨_, rfl, rfl, _, rfl, ifF (by decide +kernel) ?_⟩
      refine ⟨_, rfl, rfl, _, rfl, ifF (by decide +kernel) ?_⟩
      refine ⟨_, rfl, rfl, _, rfl, ifF (by decide +kernel) ?_⟩
      refine ⟨_, rfl, rfl, _, rfl, ifT (by decide +kernel) ?_⟩
      refine ⟨_, rfl, x.p, _, _, rfl, hp, wf_no (by decide +kernel), _, rfl, l, _, _, _, rfl, rfl, hs, atI_nat (j := 0) rfl, ?_⟩
      refine ⟨A, x, W, h, rfl, I, by have := ft.marks; omega, ?_⟩
      have rf := fun r W' => res_fit (W := W) (W' := W') (D := .keep h) (r := r) I.wf ft
      simp only [doDeed] at k rf
      cases ec : doKeep W h with
      | error e => rw [ec] at k; exact k
      | ok r =>
        obtain ⟨n, W'⟩ := r
        rw [ec] at k rf
        intro A' x' H' hx R' S'
        exact ⟨n, rfl, log_small ((rf _ _ rfl).1 n rfl), k A' x' H' hx R' S'⟩
    | branch h o =>
      cases hD
      refine ⟨_, rfl, rfl, _, rfl, ifF (by decide +kernel) ?_⟩
      refine ⟨_, rfl, rfl, _, rfl, ifF (by decide +kernel) ?_⟩
      refine ⟨_, rfl, rfl, _, rfl, ifF (by decide +kernel) ?_⟩
      refine ⟨_, rfl, rfl, _, rfl, ifF (by decide +kernel) ?_⟩
      refine ⟨_, rfl, rfl, _, rfl, ifT (by decide +kernel) ?_⟩
      refine ⟨_, rfl, x.p, _, _, rfl, hp, wf_no (by decide +kernel), _, rfl, l, _, _, _, rfl, rfl, hs, atI_nat (j := 0) rfl, _, rfl, l, _, _, _, rfl, rfl, hs, atI_nat (j := 1) rfl, ?_⟩
      refine ⟨A, x, W, h, o, rfl, I, ?_⟩
      simp only [doDeed] at k
      cases ec : doBranch W h o with
      | error e => rw [ec] at k; exact k
      | ok W' =>
        rw [ec] at k
        exact fun A' x' H' hx R' S' => k A' x' H' hx R' S'
    | leap h p =>
      cases hD
      refine ⟨_, rfl, rfl, _, rfl, ifF (by decide +kernel) ?_⟩
      refine ⟨_, rfl, rfl, _, rfl, ifF (by decide +kernel) ?_⟩
      refine ⟨_, rfl, rfl, _, rfl, ifF (by decide +kernel) ?_⟩
      refine ⟨_, rfl, rfl, _, rfl, ifF (by decide +kernel) ?_⟩
      refine ⟨_, rfl, rfl, _, rfl, ifF (by decide +kernel) ?_⟩
      refine ⟨_, rfl, rfl, _, rfl, ifT (by decide +kernel) ?_⟩
      refine ⟨_, rfl, x.p, _, _, rfl, hp, wf_no (by decide +kernel), _, rfl, l, _, _, _, rfl, rfl, hs, atI_nat (j := 0) rfl, _, rfl, l, _, _, _, rfl, rfl, hs, atI_nat (j := 1) rfl, ?_⟩
      refine ⟨A, x, W, h, p, rfl, I, ?_⟩
      simp only [doDeed] at k
      cases ec : doLeap W h p with
      | error e => rw [ec] at k; exact k
      | ok W' =>
        rw [ec] at k
        exact fun A' x' H' hx R' S' => k A' x' H' hx R' S'
    | forget p =>
      cases hD
      refine ⟨_, rfl, rfl, _, rfl, ifF (by decide +kernel) ?_⟩
      refine ⟨_, rfl, rfl, _, rfl, ifF (by decide +kernel) ?_⟩
      refine ⟨_, rfl, rfl, _, rfl, ifF (by decide +kernel) ?_⟩
      refine ⟨_, rfl, rfl, _, rfl, ifF (by decide +kernel) ?_⟩
      refine ⟨_, rfl, rfl, _, rfl, ifF (by decide +kernel) ?_⟩
      refine ⟨_, rfl, rfl, _, rfl, ifF (by decide +kernel) ?_⟩
      refine ⟨_, rfl, x.p, _, _, rfl, hp, wf_no (by decide +kernel), _, rfl, l, _, _, _, rfl, rfl, hs, atI_nat (j := 0) rfl, ?_⟩
      refine ⟨A, x, W, p, rfl, I, ?_⟩
      simp only [doDeed] at k
      cases ec : doForget W p with
      | error e => rw [ec] at k; exact k
      | ok W' =>
        rw [ec] at k
        exact fun A' x' H' hx R' S' => k A' x' H' hx R' S'
end
end Sk
end
section
/-! SwB5: an answer; a book played; walked. -/
namespace Sk
open PySem PySem.Spec PyProof.Rows L2 SW TL
def spAnswer (K : PySem.W.Frag) : Sp := fun vs H Q _ => ∃ (A : Hp) (x : Ad) (W : Wd) (text : Str), vs = [.ref x.p, .str text] ∧ At K A H x W ∧ UOk text ∧ Fit W ∧ Then K A H x (ans W text).2 (Q (.str (ans W text).1))
/-- a clause of the answer's try -/
def cl5 (K : PySem.W.Frag) (x : Str) : Value × (Addr → Value → Option Addr → TS) := (eC K x, fun _ _ _ => tRet (tC (.str x)))
theorem exT {K : PySem.W.Frag} {mg : Str → Option Value} (T : Txt K mg) {x : Str} (hx : x ∈ exN) : PySem.W.exmOne K (eC K x) (eC K x) = some true := (T.exM x hx x hx).trans (by rw [decide_eq_true rfl])
theorem exF {K : PySem.W.Frag} {mg : Str → Option Value} (T : Txt K mg) {x y : Str} (hx : x ∈ exN) (hy : y ∈ exN) (h : decide (x = y) = false) : PySem.W.exmOne K (eC K x) (eC K y) = some false := (T.exM x hx y hy).trans (by rw [h])
theorem wm_no {K : PySem.W.Frag} {Wout : WX} {D : Ends} {c cls : Value} {ts : Addr → Value → Option Addr → TS} {r : List (Value × (Addr → Value → Option Addr → TS))} {d : Option Addr} {σ : L2.St} {H : Hp} (e : PySem.W.exmOne K cls c = some false) (h : wMany K Wout D r cls d σ H) : wMany K Wout D ((c, ts) :: r) cls d σ H :=
  ⟨false, e, fun z => Bool.noConfusion z, fun _ => h⟩
theorem wm_yes {K : PySem.W.Frag} {Wout : WX} {D : Ends} {c cls : Value} {ts : Addr → Value → Option Addr → TS} {r : List (Value × (Addr → Value → Option Addr → TS))} {d : Option Addr} {σ : L2.St} {H : Hp} (e : PySem.W.exmOne K cls c = some true) (h : ∀ a, H a = none → ts a cls d D σ H) : wMany K Wout D ((c, ts) :: r) cls d σ H :=
  ⟨true, e, fun _ => h, fun z => Bool.noConfusion z⟩
/-- plays, and what stays small -/
theorem nums_of {text wd : Str} {l : List Int} (h : dOf text = some (wd, l)) : Nums l := by
  have key : ∀ o : List Str, ∀ z ∈ (o.map numOf).map (fun o : Option Int => o.getD 0), z.natAbs < 1000000 := by
    intro o z hz
    obtain ⟨q, hq, rfl⟩ := List.mem_map.mp hz
    obtain ⟨wd, _, rfl⟩ := List.mem_map.mp hq
    cases e : numOf wd with
    | none => decide
    | some n =>
      show n.natAbs < 1000000
      unfold numOf at e
      split at e
      · cases e
      rename_i hF
      have hF : Figs (figL (tl wd)) := Decidable.byContradiction hF
      split at e
      · cases e
      obtain ⟨h1, h6, hd⟩ := hF
      have val : ∀ cs : List Nat, NumText.AllDigits cs → NumText.digitsVal cs < 10 ^ cs.length := by
        have fold : ∀ (cs : List Nat) (acc : Nat), NumText.AllDigits cs → cs.foldl (fun acc c => acc * 10 + (c - 48)) acc < (acc + 1) * 10 ^ cs.length := by
          intro cs
          induction cs with
          | nil => intro acc _; simp
          | cons c cs ih =>
            intro acc hc
            have h0 := hc c List.mem_cons_self
            have := ih (acc * 10 + (c - 48)) fun x hx => hc x (List.mem_cons_of_mem _ hx)
            rw [List.foldl_cons, List.length_cons, Nat.pow_succ]
            refine Nat.lt_of_lt_of_le this ?_
            have h2 : acc * 10 + (c - 48) + 1 ≤ (acc + 1) * 10 := by omega
            calc (acc * 10 + (c - 48) + 1) * 10 ^ cs.length ≤ ((acc + 1) * 10) * 10 ^ cs.length := Nat.mul_le_mul_right _ h2
              _ = (acc + 1) * (10 ^ cs.length * 10) := by rw [Nat.mul_assoc, Nat.mul_comm 10]
        intro cs hc
        have := fold cs 0 hc
        unfold NumText.digitsVal
        simpa using this
      have small : NumText.digitsVal (figL (tl wd)) < 1000000 := by
        have a := val _ hd
        have b : 10 ^ (figL (tl wd)).length ≤ 10 ^ 6 := Nat.pow_le_pow_right (by decide) h6
        omega
      have ne : figL (tl wd) ≠ [] := fun z => by rw [z] at h1; simp at h1
      have lw : wd.length ≤ 4300 := by
        obtain ⟨_, _, h⟩ := num_reads (w := wd) ⟨h1, h6, hd⟩
        omega
      rcases figL_cases (tl wd) with ⟨cs, e1, e2⟩ | ⟨_, e2⟩
      · rw [e2] at hd ne small
        have := PySem.intText_neg e1 hd ne lw
        rw [this] at e
        have := Option.some.inj e
        omega
      · rw [e2] at hd ne small
        have := PySem.intText_digits hd ne lw
        rw [this] at e
        have := Option.some.inj e
        have s2 : NumText.digitsVal wd.cps.toList < 1000000 := small
        omega
  unfold dOf at h
  split at h
  · cases h
  · rename_i w' ws e
    split at h
    · cases h
    · split at h
      · split at h
        · cases h
        · cases h; exact key ws
      · split at h
        · cases h; exact key ws
        · cases h
theorem dw_nums {wd : Str} {l : List Int} {D : Deed} (h : DW wd l D) : dNums D = l := by cases h <;> rfl
theorem fit_did {W W' : Wd} {D : Deed} {r : Res} (F : WFW W) (h : Fit W) (hD : Nums (dNums D)) (h1 : W.many + 1 ≤ 900) (h2 : W.marks.length + 1 ≤ 900) (ed : doDeed W D = .ok (r, W')) : Fit W' := by
  obtain ⟨dd, _, _⟩ := did_ok F ed
  refine ⟨h.small.did F ed, h.nums.did F hD ed, ?_, ?_⟩
  · have := congrArg Nl.many dd.nl
    have h7 := ap_many (Sk.nl W) D
    have h8 : (Sk.nl W).many = W.many := rfl
    have h9 : (Sk.nl W').many = W'.many := rfl
    omega
  · have := congrArg List.length (congrArg Nl.kept dd.nl)
    have h7 := ap_kept (Sk.nl W) D
    have h8 : (Sk.nl W).kept.length = W.marks.length := len_kept W
    have h9 : (Sk.nl W').kept.length = W'.marks.length := len_kept W'
    omega
theorem did_many {W W' : Wd} {D : Deed} {r : Res} (F : WFW W) (ed : doDeed W D = .ok (r, W')) : W'.many ≤ W.many + 1 ∧ W'.marks.length ≤ W.marks.length + 1 ∧ W'.tops.length = W.tops.length := by
  obtain ⟨dd, _, _⟩ := did_ok F ed
  refine ⟨?_, ?_, dd.tops⟩
  · have := congrArg Nl.many dd.nl
    have h7 := ap_many (Sk.nl W) D
    have h8 : (Sk.nl W).many = W.many := rfl
    have h9 : (Sk.nl W').many = W'.many := rfl
    omega
  · have := congrArg List.length (congrArg Nl.kept dd.nl)
    have h7 := ap_kept (Sk.nl W) D
    have h8 : (Sk.nl W).kept.length = W.marks.length := len_kept W
    have h9 : (Sk.nl W').kept.length = W'.marks.length := len_kept W'
    omega
theorem doDeed_rooms {W W' : Wd} {D : Deed} {r : Res} (F : WFW W) (ed : doDeed W D = .ok (r, W')) : WFW W' := (did_ok F ed).1.wf
/-- what an answer leaves -/
structure Left (W W' : Wd) : Prop where
  wf : WFW W'
  many : W'.many ≤ W.many + 1
  marks : W'.marks.length ≤ W.marks.length + 1
  tops : W'.tops.length = W.tops.length
  small : Small (nl W) → Small (nl W')
  nums : AllN Nums (nl W) → AllN Nums (nl W')
theorem ans_left {W : Wd} (F : WFW W) (text : Str) : Left W (ans W text).2 := by
  have same : Left W W := ⟨F, by omega, by omega, rfl, fun h => h, fun h => h⟩
  unfold ans
  cases e : dOf text with
  | none => exact same
  | some q =>
    obtain ⟨wd, l⟩ := q
    simp only
    cases ed : doDeed W (toD wd l) with
    | error er => exact same
    | ok q =>
      obtain ⟨r, W'⟩ := q
      simp only
      obtain ⟨h1, h2, h3⟩ := did_many F ed
      refine ⟨(did_ok F ed).1.wf, h1, h2, h3, fun S => S.did F ed, fun S => S.did F ?_ ed⟩
      rw [dw_nums (dOf_dw e)]
      exact nums_of e
theorem plays_left : ∀ (ts : List Str) {W : Wd}, WFW W → WFW (plays W ts).2 ∧ (plays W ts).2.many ≤ W.many + (ts.length : Int) ∧ (plays W ts).2.marks.length ≤ W.marks.length + ts.length ∧ (plays W ts).2.tops.length = W.tops.length ∧ (Small (nl W) → Small (nl (plays W ts).2)) ∧ (AllN Nums (nl W) → AllN Nums (nl (plays W ts).2)) ∧ (plays W ts).1.length = ts.length
  | [], W, F => ⟨F, by simp [plays], by simp [plays], rfl, fun h => h, fun h => h, rfl⟩
  | t :: ts, W, F => by
    have a := ans_left F t
    obtain ⟨h1, h2, h3, h4, h5, h6, h7⟩ := plays_left ts a.wf
    have a2 := a.many
    have a3 := a.marks
    refine ⟨h1, ?_, ?_, h4.trans a.tops, fun h => h5 (a.small h), fun h => h6 (a.nums h), ?_⟩
    · show (plays (ans W t).2 ts).2.many ≤ W.many + ((t :: ts).length : Int)
      rw [List.length_cons]; omega
    · show (plays (ans W t).2 ts).2.marks.length ≤ W.marks.length + (t :: ts).length
      rw [List.length_cons]; omega
    · show (plays (ans W t).2 ts).1.length + 1 = (t :: ts).length
      rw [h7, List.length_cons]
theorem small_new (hands rooms : Int) : Small (nl (newW hands rooms)) := by
  refine ⟨fun v h c hc => ?_, fun q hq => ?_⟩
  · obtain ⟨q, hq, e⟩ := List.mem_map.mp (show v ∈ (List.replicate hands.toNat (none : Option Int)).map (vl []) from h)
    rw [List.eq_of_mem_replicate hq, vl_nil] at e
    rw [← e] at hc; simp at hc
  · have hq : q ∈ ([] : List (Int × List (List Int))) := hq
    simp at hq
theorem nums_new (hands rooms : Int) : AllN Nums (nl (newW hands rooms)) := by
  refine ⟨fun v h c hc => ?_, fun q hq => ?_⟩
  · obtain ⟨q, hq, e⟩ := List.mem_map.mp (show v ∈ (List.replicate hands.toNat (none : Option Int)).map (vl []) from h)
    rw [List.eq_of_mem_replicate hq, vl_nil] at e
    rw [← e] at hc; simp at hc
  · have hq : q ∈ ([] : List (Int × List (List Int))) := hq
    simp at hq
def spPlayed (K : PySem.W.Frag) : Sp := fun vs H Q E => ∃ (hands rooms : Int) (b : Addr) (ts : List Str), vs = [.int hands, .int rooms, .ref b] ∧ SqL K H b (ts.map V.str) ∧ ts.length ≤ 800 ∧ (∀ t ∈ ts, UOk t) ∧
  (InR hands rooms → ∀ (A' : Hp) (x' : Ad) (H' : Hp) (p l : Addr), Stp (fun _ => none) H A' H' → WA K A' x' (plays (newW hands rooms) ts).2 → H' p = some (.tup [.ref l, .ref x'.p]) → H' l = some (.lst ((plays (newW hands rooms) ts).1.map V.str)) → H p = none → H l = none → A' p = none → A' l = none → Q (.ref p) H') ∧
  (¬ InR hands rooms → ∀ H', Same H H' → E (eC K "BadWood") none H')
section
variable {P : Program} {w : World} {K : PySem.W.Frag} {mg : Str → Option Value} {base : Heap}
theorem ok_answer (T : Txt K mg) (TC : TxtB K w) : FnOk P w K mg base CX0 6 (aG K "answer") (fdOf K (aG K "answer")) ["wood", "text"] (spAnswer K) := by
  refine T.F_answer.ok sc_answer (fun vs H Q E h => ?_) (fun cdv A outer s H vs Q E hr h => ?_)
  · obtain ⟨_, _, _, _, rfl, _⟩ := h; rfl
  · obtain ⟨A, x, W, text, rfl, I, U, ft, k⟩ := h
    refine ⟨_, PSs.nox (pss_cons (ps_set (i := 2) sc_answer.nd rfl (Or.inl rfl) (pe_call (ok_deed_of T TC) (hr.mono (by decide)) rfl T.g_deed_of T.F_deed_of.kp T.b_deed_of .nil pass0 (pa_cons (pv 1) pa_nil)))
      (pss_cons (ps_if (pt_cmpR op_isN1 (pv 2) pe_non (nomark _)) (pss_one (ps_ret pe_str)) pss_nil)
      (pss_one (ps_try_many (l := [cl5 K "NoHand", cl5 K "NoPlace", cl5 K "NoCall", cl5 K "NoSlot", cl5 K "NoRoom"]) (Wout := fun _ _ _ _ => False) rfl rfl takes_none5
        (fun W pn xe tk _ => pss_one (ps_ret (pe_callS (ok_done T) (hr.mono (by decide)) rfl T.g_done T.F_done.kp T.b_done (fun σ => passAt tk σ) (pa_cons (pv 0) (pa_cons (pe_ix (ix_tupK K rfl) (pv 2) pe_int (fun _ _ => rfl)) (pa_cons (pe_ix (ix_tupK K rfl) (pv 2) pe_int (fun _ _ => rfl)) pa_nil))))))
        (.cons ⟨rfl, by decide, .inl T.g_NoHand⟩ (fun _ _ _ _ _ _ _ => pss_one (ps_ret pe_str))
        (.cons ⟨rfl, by decide, .inl T.g_NoPlace⟩ (fun _ _ _ _ _ _ _ => pss_one (ps_ret pe_str))
        (.cons ⟨rfl, by decide, .inl T.g_NoCall⟩ (fun _ _ _ _ _ _ _ => pss_one (ps_ret pe_str))
        (.cons ⟨rfl, by decide, .inl T.g_NoSlot⟩ (fun _ _ _ _ _ _ _ => pss_one (ps_ret pe_str))
        (.cons ⟨rfl, by decide, .inl T.g_NoRoom⟩ (fun _ _ _ _ _ _ _ => pss_one (ps_ret pe_str)) .nil))))))))), ?_⟩
    refine ⟨_, rfl, text, rfl, U, fun hn H1 e1 => ?_, fun wd l hd t a H1 e1 ht hl ll nt na => ?_⟩
    · have ea : ans W text = (("BadDeed" : Str), W) := by unfold ans; rw [hn]
      rw [ea] at k
      refine ⟨_, rfl, rfl, _, rfl, ifT (decide_eq_true rfl) ?_⟩
      exact k A x H1 rfl I.wa ((Stp.refl I.sub).same e1)
    · refine ⟨_, rfl, rfl, _, rfl, ifF (decide_eq_false fun z => by cases z) ?_⟩
      refine ⟨_, rfl, _, rfl, t, _, _, _, rfl, rfl, SqT.of ht, atI_nat (j := 0) rfl, _, rfl, t, _, _, _, rfl, rfl, SqT.of ht, atI_nat (j := 1) rfl, ?_⟩
      have S1 := (Stp.refl I.sub).same e1
      refine ⟨A, x, W, wd, a, l, toD wd l, rfl, ⟨S1.own, I.wa, I.wf⟩, SqL.of hl, dOf_dw hd, ft, ?_⟩
      cases ed : doDeed W (toD wd l) with
      | ok q =>
        obtain ⟨r, W'⟩ := q
        have ea : ans W text = (resT r, W') := by unfold ans; simp only [hd, ed]
        rw [ea] at k
        exact fun A' x' H' hx R' S' => k A' x' H' hx R' (S1.trans S')
      | error er =>
        have ea : ans W text = (ern er, W) := by unfold ans; simp only [hd, ed]
        rw [ea] at k
        intro H2 e2
        have kk := k A x H2 rfl I.wa (S1.same e2)
        have m1 : ("NoHand" : Str) ∈ exN := by decide +kernel
        have m2 : ("NoPlace" : Str) ∈ exN := by decide +kernel
        have m3 : ("NoCall" : Str) ∈ exN := by decide +kernel
        have m4 : ("NoSlot" : Str) ∈ exN := by decide +kernel
        have m5 : ("NoRoom" : Str) ∈ exN := by decide +kernel
        cases er with
        | hand => exact wm_yes (exT T m1) fun _ _ => kk
        | place => exact wm_no (exF T m2 m1 (by decide +kernel)) (wm_yes (exT T m2) fun _ _ => kk)
        | call => exact wm_no (exF T m3 m1 (by decide +kernel)) (wm_no (exF T m3 m2 (by decide +kernel)) (wm_yes (exT T m3) fun _ _ => kk))
        | slot => exact wm_no (exF T m4 m1 (by decide +kernel)) (wm_no (exF T m4 m2 (by decide +kernel)) (wm_no (exF T m4 m3 (by decide +kernel)) (wm_yes (exT T m4) fun _ _ => kk)))
        | room => exact wm_no (exF T m5 m1 (by decide +kernel)) (wm_no (exF T m5 m2 (by decide +kernel)) (wm_no (exF T m5 m3 (by decide +kernel)) (wm_no (exF T m5 m4 (by decide +kernel)) (wm_yes (exT T m5) fun _ _ => kk))))
theorem ok_played (T : Txt K mg) (TC : TxtB K w) : FnOk P w K mg base (L2.CX P w) 7 (aG K "played") (fdOf K (aG K "played")) ["hands", "rooms", "book"] (spPlayed K) := by
  refine T.F_played.ok (CX := L2.CX P w) sc_played (fun vs H Q E h => ?_) (fun cdv A outer s H vs Q E hr h => ?_)
  · obtain ⟨_, _, _, _, rfl, _⟩ := h; rfl
  · obtain ⟨hands, rooms, b, ts, rfl, hb, hl, hu, ky, kn⟩ := h
    refine ⟨_, (pss_cons (ps_set (i := 3) sc_played.nd rfl (Or.inr rfl) (pe_make T.mk_Wood (ok_Wood_init T) (hr.mono (by decide)) rfl T.g_Wood T.b_Wood_init .nil (passes_call (takes_of rfl rfl rfl rfl) (fun _ _ _ _ h => h)) (pa_cons (pv 0) (pa_cons (pv 1) pa_nil)))) (pss_one (ps_ret (pe_tup (pa_cons (pe_lc (own := [("text", 4)]) (g := gName 4) rfl sc_played.nd (pi_listK K rfl (pv 2)) (blkOk_by (own := [("text", 4)]) (N := ["hands", "rooms", "book", "wood", "text"]) (sc := (defScope s_played)) (by decide +kernel)) (fun _ _ _ _ _ => pg_name (i := 4) sc_played.nd rfl (Or.inl rfl)) (fun _ _ _ _ _ => by exact pts_nil) (fun _ _ _ _ _ => by exact (pe_call (ok_answer T TC) (hr.mono (by decide)) rfl T.g_answer T.F_answer.kp T.b_answer .nil pass0 (pa_cons (pv 3) (pa_cons (pv 4) pa_nil))))) (pa_cons (pv 3) pa_nil)))))), ?_⟩
    refine ⟨_, rfl, _, rfl, fun p0 dx ny ndx ne => ⟨p0, dx, hands, rooms, rfl, upd_same, fun hin A1 x H7 hx R7 S7 kp new => ?_, fun hin => ?_⟩⟩
    · refine ⟨rfl, ?_⟩
      refine gName_to ?_
      obtain ⟨⟨a1, a6⟩, b1, b40⟩ := hin
      have F0 : WFW (newW hands rooms) := newW_wf a1 a6 b1 (by omega)
      have S7' := stp_made ny ndx S7 kp new
      subst hx
      have hb7 : SqL K H7 b (ts.map V.str) := Same.seq (fun b' o e => S7'.oth _ _ e rfl) hb
      refine ⟨_, rfl, b, rfl, ⟨_, hb7⟩, fun D nD => ?_⟩
      have nAD : A1 D = none := off_newA S7 nD
      have nDH : H D = none := by
        cases q : H D with
        | none => rfl
        | some o => rw [S7'.oth _ _ q rfl] at nD; cases nD
      have stay : ∀ {H' A' : Hp}, Stp (fun _ => none) H A' H' → SqL K H' b (ts.map V.str) := fun S => Same.seq (fun b' o e => S.oth _ _ e rfl) hb
      refine lc_list (K := K) (a := b) (xs := ts.map V.str) (fun i H' => ∃ (A' : Hp) (x' : Ad), x'.p = x.p ∧ WA K A' x' (plays (newW hands rooms) (ts.take i)).2 ∧ Stp (fun _ => none) H A' H' ∧ A' D = none ∧ H' D = some (.lst ((plays (newW hands rooms) (ts.take i)).1.map V.str))) ⟨A1, x, rfl, R7, S7'.gar nD _, nAD, upd_same⟩ (fun i H' _ ⟨_, _, _, _, S, _⟩ => stay S) ?_ ?_
      · rintro i v H' hi ⟨A', x', hx', R', S', nA, hD⟩
        obtain ⟨t, ht, rfl⟩ : ∃ t, ts[i]? = some t ∧ v = V.str t := by
          rw [List.getElem?_map] at hi
          cases e : ts[i]? with
          | none => rw [e] at hi; cases hi
          | some r => rw [e] at hi; exact ⟨r, rfl, (Option.some.inj hi).symm⟩
        have ps := plays_snoc t (ts.take i) (newW hands rooms)
        rw [← take_snocC ht] at ps
        obtain ⟨p1, p2, p3, p4, p5, p6, p7⟩ := plays_left (ts.take i) F0
        have til : (ts.take i).length ≤ 800 := by rw [List.length_take]; omega
        have m0 : (newW hands rooms).many = 0 := rfl
        have k0 : (newW hands rooms).marks.length = 0 := rfl
        generalize plays (newW hands rooms) (ts.take i) = pi at *
        refine ⟨rfl, yesT rfl ?_⟩
        refine ⟨_, rfl, _, rfl, A', x', pi.2, t, by rw [hx']; rfl, ⟨S'.own, R', p1⟩, hu t (List.mem_of_getElem? ht), ⟨p5 (small_new _ _), p6 (nums_new _ _), by omega, by omega⟩, ?_⟩
        intro A2 x2 H2 hx2 R2 S2
        obtain ⟨hD2, nA2⟩ := stp_keep S2 S'.own hD nA
        refine ⟨_, hD2, szl (by rw [List.length_map, p7]; omega), A2, x2, hx2.trans hx', by rw [ps]; exact R2, (S'.trans S2).gars nDH nA2 _, nA2, ?_⟩
        rw [upd_same, ps, List.map_append]; rfl
      · rintro H2 ⟨A', x', hx', R', S', nA, hD⟩
        rw [List.length_map, List.take_length] at R' hD
        refine ⟨_, rfl, by show 2 ≤ sizeLine; exact sz (by omega), fun t nt => ?_⟩
        have e3 := same_new nt (.tup [V.ref D, V.ref x.p])
        exact ky ⟨⟨a1, a6⟩, b1, b40⟩ A' x' _ t D (S'.gar nt _) R' (by rw [upd_same, hx']) (e3 _ _ hD) (by
          cases q : H t with
          | none => rfl
          | some o => rw [S'.oth _ _ q rfl] at nt; cases nt) nDH (S'.free nt) nA
    · exact kn hin _ fun b' o e => by rw [upd_ne (ne_of_none e ny), upd_ne (ne_of_none e ndx)]; exact e
end
end Sk
end
section
/-! SwLam: a lambda with one parameter that has a default, handed to a def that calls it without arguments. -/
namespace LamD
open PySem PySem.Spec PyProof.Rows L2 LamX
abbrev fobj (qual : Str) (params : Arguments) (body : Expr) (scope : Scope) (cl : List (Str × Addr)) (dt : Addr) (doc pm : Value) (c' : Addr) (ctv : Value) : Obj :=
  PySem.W.kdv_obj "<lambda>" qual params (.expr body) scope cl (.ref dt) doc pm c' ctv
section
variable {X : Cx} {pins : List (Addr × Obj)} {σ : L2.St} {H : Hp} {s : Shared}
/-- the default's tuple stands at dt -/
theorem lam_makeD {T : List (Addr × Str)} {c P : Addr} {params : Arguments} {body : Expr} {scope : Scope} {pos : Pos} {i : Int} {j : Nat} {dp : Pos} {E : Value → Shared → Prop} {Q : Value → Shared → Prop} (I : Inv X pins σ H s) (TB : TabB X.base X.mg c P) (hcode : X.env.code = .ref c)
    (hm : (P, X.env.qual ++ "<lambda>") ∈ T) (hu : ∀ p ∈ T, p.1 = P → p.2 = X.env.qual ++ "<lambda>") (hT : Tabs T H) (hd : params.defaults = [.Constant (.int i) j dp]) (hk0 : params.kw_defaults = []) (hfree : ∀ y ∈ scope.names, y.2 = .free → ∃ c, X.env.cells.lookup y.1 = some c)
    (h : ∀ (f c' dt : Addr) (dv doc pm ctv : Value) (H1 : Hp) (s' : Shared), Inv X pins σ H1 s' → ExtN H H1 → Tabs T H1 → s'.heap.get? dt = some (PySem.W.kdv_tup [dv]) → H1 dt = none → dt ∉ frs X.stack → RelV (.int i) dv →
      s'.heap.get? f = some (fobj (X.env.qual ++ "<lambda>") params body scope (cloFrom X.env.cells scope.names []) dt doc pm c' ctv) → H1 f = none → f ∉ frs X.stack → H1 c' = some (CodeO c' (X.env.qual ++ "<lambda>")) → Q (.ref f) s') :
    wpAny (model X.prog X.w) X.A (eval (.Lambda params body scope pos) X.env) Q E s := by
  refine PySem.W.kdv_lam (by rw [hd]; rfl) hk0 ?_
  rw [hd]
  refine PySem.W.kdv_all1 (thn ((pe_int (X := X) (i := i) (j := j) (pos := dp)).run pins s σ H (fun v H1 => v = .int i ∧ H1 = H) I ⟨rfl, rfl⟩) fun u s0 ⟨v, H0, I0, r0, q0⟩ => PySem.W.kdv_all0 ?_)
  obtain ⟨e1, e2⟩ := q0
  subst e1 e2
  clear I
  rw [makeFunction_eq]
  simp only [List.zip_nil_right, List.filterMap_nil, List.isEmpty_nil, if_true, pure_bind, List.isEmpty_cons, Bool.false_eq_true, if_false]
  refine wpAny_bind (wpAny_newTextTuple ?_)
  have I1 : Inv X pins σ H0 { s0 with heap := s0.heap.push (PySem.W.kdv_tup [u]) } := I0.kept (t' := s0.toks) fun b o e => Heap.get?_push_of_some _ e
  have hdt : ({ s0 with heap := s0.heap.push (PySem.W.kdv_tup [u]) } : Shared).heap.get? s0.heap.objs.size = some (PySem.W.kdv_tup [u]) := Heap.get?_push_size _ rfl
  have hdn : H0 s0.heap.objs.size = none := I0.hok.fresh (Nat.le_refl _)
  have hdf : s0.heap.objs.size ∉ frs X.stack := fun z => by
    rcases List.mem_cons.mp (I0.stkSub _ z) with e | e
    · have h1 := I0.lt
      rw [← e] at h1
      exact Nat.lt_irrefl _ h1
    · exact I0.nofs (Nat.le_refl _) e
  generalize hs : ({ s0 with heap := s0.heap.push (PySem.W.kdv_tup [u]) } : Shared) = s1 at I1 hdt
  show wpAny (model X.prog X.w) X.A (makeTail "<lambda>" (X.env.qual ++ "<lambda>") params (.expr body) scope X.env (.ref s0.heap.objs.size) .none none pos pos.line) Q E s1
  generalize s0.heap.objs.size = dt at hdt hdn hdf
  clear hs I0
  obtain ⟨ps, hP, ht, ha⟩ := hT _ hm
  have bP : s1.heap.BuiltinsAt X.mg P := TB.bm.keeps I1.bk
  have hP' : s1.heap.get? P = some { cls := .none, data := .fields ps } := I1.hok P _ hP
  have dP : dt ≠ P := fun z => by rw [z, hP] at hdn; cases hdn
  have nofr : ∀ f, s1.heap.objs.size ≤ f → f ∉ frs X.stack := fun f hf z => by
    rcases List.mem_cons.mp (I1.stkSub _ z) with e | e
    · have h1 := I1.lt
      rw [← e] at h1
      exact Nat.lt_irrefl _ (Nat.lt_of_lt_of_le h1 hf)
    · exact I1.nofs hf e
  cases hc : codeAmong pos ps.toList with
  | none =>
    refine PySem.W.kdv_makeTail (mg := X.mg) (c := c) (P := P) (ps := ps) (closure_ok hfree) I1.ok.glob (I1.mod.glob.keeps I1.bk) hcode (TB.code.keeps I1.bk) hP' ht hc TB.gP bP fun c' ctv doc h' tk hx hge hlt hrec htb => ?_
    obtain ⟨c2, oc, vs, t, e2, hoc, hdd, hv⟩ := hrec
    cases e2
    have hsz : s1.heap.objs.size ≤ h'.objs.size := Nat.le_trans hge (Nat.le_of_lt hlt)
    have nC : H0 c' = none := I1.hok.fresh hge
    have I2 := inv_table (t' := tk) (more := #[rawInt pos.line, rawInt pos.col, .ref c']) (h' := h'.push (fobj (X.env.qual ++ "<lambda>") params body scope (cloFrom X.env.cells scope.names []) dt doc ((X.mg "__name__").getD .none) c' ctv)) I1 hP
      (fun b o hb e => Heap.get?_push_of_some _ (hx b o hb e)) (Heap.get?_push_of_some _ htb) hge ⟨oc, vs, t, Heap.get?_push_of_some _ hoc, hdd, hv⟩
    have hE : ExtN H0 (upd (upd H0 P (.tbl (ps ++ #[rawInt pos.line, rawInt pos.col, .ref c']))) c' (CodeO c' (X.env.qual ++ "<lambda>"))) := fun b o e n => by
      rw [upd_ne (ne_of_none e nC), upd_ne (fun z => n ps (Option.some.inj (e.symm.trans (by rw [z]; exact hP))))]
      exact e
    have eL : (ps ++ #[rawInt pos.line, rawInt pos.col, .ref c']).toList = ps.toList ++ [rawInt pos.line, rawInt pos.col, .ref c'] := by simp
    have dlt := Heap.lt_size hdt
    have dc : dt ≠ c' := fun z => Nat.lt_irrefl _ (Nat.lt_of_lt_of_le (z ▸ dlt) hge)
    refine h h'.objs.size c' dt u doc ((X.mg "__name__").getD .none) ctv _ _ I2 hE (fun p hp => ?_) (Heap.get?_push_of_some _ (hx dt _ dP hdt)) (by rw [upd_ne dc, upd_ne dP]; exact hdn) hdf r0 (Heap.get?_push_size _ rfl) ?_ (nofr _ hsz) upd_same
    · by_cases hb : p.1 = P
      · rw [hu p hp hb, hb]
        refine ⟨_, by rw [upd_ne (ne_of_none hP nC), upd_same], by rw [eL]; exact PySem.TriplesOk_snoc _ _ _ _ ht, fun p' cv hcv => ?_⟩
        rw [eL] at hcv
        rcases among_app _ ht hcv with z | z
        · obtain ⟨c0, e1, e2⟩ := ha p' cv z
          exact ⟨c0, e1, hE _ _ e2 codeO_ne⟩
        · exact ⟨c', z, upd_same⟩
      · obtain ⟨ps', a1, a2, a3⟩ := hT p hp
        refine ⟨ps', by rw [upd_ne (ne_of_none a1 nC), upd_ne hb]; exact a1, a2, fun p' cv hcv => ?_⟩
        obtain ⟨c0, e1, e2⟩ := a3 p' cv hcv
        exact ⟨c0, e1, hE _ _ e2 codeO_ne⟩
    · have n1 : h'.objs.size ≠ c' := Nat.ne_of_gt hlt
      have n2 : h'.objs.size ≠ P := Nat.ne_of_gt (Nat.lt_of_lt_of_le (Heap.lt_size hP') hsz)
      rw [upd_ne n1, upd_ne n2]
      exact I1.hok.fresh hsz
  | some cv =>
    obtain ⟨c', e, hco⟩ := ha pos cv hc
    subst e
    refine PySem.W.kdv_makeTailHit (mg := X.mg) (c := c) (P := P) (ps := ps) (closure_ok hfree) I1.ok.glob (I1.mod.glob.keeps I1.bk) hcode (TB.code.keeps I1.bk) hP' ht hc bP fun ctv doc h' tk hx hsz => ?_
    have I2 : Inv X pins σ H0 { s1 with heap := h'.push (fobj (X.env.qual ++ "<lambda>") params body scope (cloFrom X.env.cells scope.names []) dt doc ((X.mg "__name__").getD .none) c' ctv), toks := tk } := I1.kept fun b o e => Heap.get?_push_of_some _ (hx b o e)
    exact h h'.objs.size c' dt u doc ((X.mg "__name__").getD .none) ctv H0 _ I2 (ExtN.refl H0) hT (Heap.get?_push_of_some _ (hx dt _ hdt)) hdn hdf r0 (Heap.get?_push_size _ rfl) (I1.hok.fresh hsz) (nofr _ hsz) hco
end
/-- one parameter x, no other name of its own: captured ones and globals -/
structure LamS1 (sc scope : Scope) (x : Str) : Prop where
  kind : scope.kind = .function
  co : scope.isCoroutine = false
  gen : scope.isGenerator = false
  own : ∀ y ∈ scope.names, y.2 ≠ .cell ∧ (y.2 = .local → y.1 = x)
  par : scope.names.lookup x = some .local
  free : ∀ y ∈ scope.names, y.2 = .free → sc.names.lookup y.1 = some .cell ∨ sc.names.lookup y.1 = some .free
def lamSB1 (sc scope : Scope) (x : Str) : Bool :=
  decide (scope.kind = .function) && !scope.isCoroutine && !scope.isGenerator && (scope.names.all fun y => !decide (y.2 = .cell) && (!decide (y.2 = .local) || decide (y.1 = x)) && (!decide (y.2 = .free) || decide (sc.names.lookup y.1 = some .cell) || decide (sc.names.lookup y.1 = some .free))) && decide (scope.names.lookup x = some .local)
theorem lamS1_by {sc scope : Scope} {x : Str} (h : lamSB1 sc scope x = true) : LamS1 sc scope x := by
  unfold lamSB1 at h
  simp only [Bool.and_eq_true, Bool.or_eq_true, Bool.not_eq_true', decide_eq_true_eq, decide_eq_false_iff_not, List.all_eq_true] at h
  obtain ⟨⟨⟨⟨h1, h2⟩, h3⟩, h4⟩, h5⟩ := h
  refine ⟨h1, h2, h3, fun y hy => ⟨(h4 y hy).1.1, fun e => ?_⟩, h5, fun y hy e => ?_⟩
  · rcases (h4 y hy).1.2 with z | z
    · exact absurd e z
    · exact z
  · rcases (h4 y hy).2 with (z | z) | z
    · exact absurd e z
    · exact .inl z
    · exact .inr z
theorem LamS1.has {X : Cx} {scope : Scope} {x : Str} (L : LamS1 X.env.scope scope x) (ok : X.Ok) : ∀ y ∈ scope.names, y.2 = .free → ∃ c, X.env.cells.lookup y.1 = some c := fun y hy e => by
  rcases L.free y hy e with k | k
  · exact ok.has _ (.inl k)
  · exact ok.has _ (.inr k)
section
variable {X : Cx} {pins : List (Addr × Obj)} {σ : L2.St} {H HZ : Hp} {s s1 : Shared}
theorem lam_startD {A : Around} {outer : List Env} {E : XK} {scope : Scope} {f c' : Addr} {h₁ : Heap} {tk : Nat} {x : Str} {dv : Value} (I : Inv X pins σ H s) (L : LamS1 X.env.scope scope x) (hx : x ∉ X.N) (e0 : Env0 X.prog X.w X.K X.mg X.base A outer s1 HZ) (hd : A.handled = none)
    (un : Un (frs X.stack) [] H HZ s.heap s1.heap) (hns : h₁.Ns s1.heap.objs.size fun y => ([(x, dv)] : List (Str × Value)).reverse.lookup y) (kp : ∀ b o, s1.heap.get? b = some o → h₁.get? b = some o) :
    Inv (lamCx X A outer s1 HZ E scope f c') [] σ HZ { s1 with heap := h₁, toks := tk } := by
  have hfree := L.has I.ok
  have cm : ∀ {y c}, (cloFrom X.env.cells scope.names []).lookup y = some c → X.env.cells.lookup y = some c := fun {y c} e => by
    rcases cloFrom_mem (PySem.mem_of_lookup e) with hm | ⟨h1, h2⟩
    · cases hm
    · obtain ⟨c1, hc⟩ := hfree _ h1 rfl
      have hc : X.env.cells.lookup y = some c1 := hc
      have e2 : c = c1 := by
        rw [h2, hc] <;> rfl
      rw [e2]
      exact hc
  have look : ∀ {y}, scope.names.lookup y = some .free → ∃ c, (cloFrom X.env.cells scope.names []).lookup y = some c := fun {y} hl => by
    have hy : (y, NameKind.free) ∈ scope.names := PySem.mem_of_lookup hl
    exact mem_lookup (cloFrom_has (cells := X.env.cells) (acc := []) hy)
  have cellK : ∀ {c : Addr} {v : Option Value}, H c = none → s.heap.IsCell c v → h₁.IsCell c v := fun {c v} n ⟨o, ho, hd⟩ => by
    obtain ⟨sl, q⟩ := un.any ho n (by simp)
    exact ⟨_, kp _ _ q, hd⟩
  have noA : ∀ b : Addr, b ∉ (lamCx X A outer s1 HZ E scope f c').ex := fun b z => absurd (show b ∈ ([] : List Addr) from z) (by simp)
  refine ⟨⟨e0.mod, L.kind, rfl, rfl, Nat.le_refl _, fun y z c e1 e2 => I.ok.inj y z c (cm e1) (cm e2), fun y hy => ?_, fun y c z _ => ?_, fun _ => hd, Around.frames_deeper e0.frames, .inr ⟨rfl, rfl⟩, fun b z => absurd z (noA b), e0.bs, e0.bsz, fun b _ _ => noA b,
      fun b z => absurd z (noA b), e0.funs, e0.frf⟩,
    rfl, e0.bare, Un.kept kp, ⟨_, hns, fun i y v e1 e2 e3 => ?_⟩, fun y c e => ?_, e0.hok.fresh (Nat.le_refl _), fun y c e => ?_, fun q hq => absurd (show q ∈ ([] : List (Addr × Obj)) ++ [] from hq) (by simp), e0.hok.kept kp, I.len⟩
  · have hy : scope.names.lookup y = some .cell ∨ scope.names.lookup y = some .free := hy
    rcases hy with hy | hy
    · exact absurd rfl (L.own _ (PySem.mem_of_lookup hy)).1
    · exact look hy
  · have z : false = true := z
    cases z
  · have e3 : Vis scope y := e3
    rcases e3 with k | k | k
    · have yx : y = x := (L.own _ (PySem.mem_of_lookup k)).2 rfl
      have e1 : X.N[i]? = some y := e1
      exact absurd (yx ▸ List.mem_of_getElem? e1) hx
    · exact absurd rfl (L.own _ (PySem.mem_of_lookup k)).1
    · obtain ⟨m, hn, hl⟩ := I.loc
      have hvis : Vis X.env.scope y := (L.free _ (PySem.mem_of_lookup k) rfl).elim (fun k => .inr (.inl k)) (fun k => .inr (.inr k))
      obtain ⟨w', r, q⟩ := hl i y v e1 e2 hvis
      obtain ⟨c2, h2⟩ := look k
      refine ⟨w', r, .inr ⟨.inr k, c2, h2, ?_⟩⟩
      have c1 := cm h2
      rcases q with ⟨k', _⟩ | ⟨_, c3, e', z⟩
      · have k' : X.env.scope.names.lookup y = some .local := k'
        rcases L.free _ (PySem.mem_of_lookup k) rfl with k2 | k2 <;> rw [show X.env.scope.names.lookup y = _ from k2] at k' <;> cases k'
      · rw [c1] at e'
        cases e'
        exact cellK (I.freeC y _ c1) z
  · obtain ⟨w', z⟩ := I.cell y c (cm e)
    exact ⟨w', cellK (I.freeC y c (cm e)) z⟩
  · obtain ⟨v, o, ho, hd⟩ := I.cell y c (cm e)
    exact un.free c o ho (I.freeC y c (cm e)) (by simp)
/-- x(), in the def that got the lambda -/
theorem pe_actD {CXg : CXT} {Eg : XK} {Ng : List Str} {qg : Str} {sg : Scope} {g f c' dt : Addr} {cdg dv doc pm ctv : Value} {params : Arguments} {body : Expr} {scope : Scope} {k i : Nat} {a x : Str} {pn : List (Addr × Obj)} {xe : Value → Shared → Prop} {W : WX} {E : XK} {tb : TE} {p1 p2 : Pos}
    (I : Inv X pins σ H s) (L : LamS1 X.env.scope scope x) (hx : x ∉ X.N) (hdt : s.heap.get? dt = some (PySem.W.kdv_tup [dv])) (hdn : H dt = none) (hdf : dt ∉ frs X.stack) (hf : s.heap.get? f = some (fobj (X.env.qual ++ "<lambda>") params body scope (cloFrom X.env.cells scope.names []) dt doc pm c' ctv)) (hfn : H f = none) (hfr : f ∉ frs X.stack)
    (hbind : ∀ s2 : Shared, s2.heap.get? dt = some (PySem.W.kdv_tup [dv]) → BindsTo s2 (PySem.W.kdv_fn "<lambda>" (X.env.qual ++ "<lambda>") params (.expr body) scope (cloFrom X.env.cells scope.names []) (.ref dt) doc pm (.ref c') ctv) ⟨[], []⟩ [(x, dv)])
    (tk : Takes ((cxOf CXg X.prog X.w X.K X.mg X.base Ng qg sg g cdg X.A X.stack s H Eg).tr pn xe) W) (hW : ∀ cls d σ' H', E cls d H' → W cls d σ' H') (hr : Room (k + 1) (X.A.deeper (envOfC qg sg s.heap.objs.size g cdg)))
    (hbody : ∀ (A : Around) (outer : List Env) (s : Shared) (H : Hp), Room k (A.deeper (lamEnv X scope s.heap.objs.size f c')) → PE (lamCx X A outer s H E scope f c') body tb)
    (hN : Ng[i]? = some a) (hv : Vis sg a) (hd : (a == ("__debug__" : Str)) = false := by decide) (hcd : (a == ("__classdict__" : Str)) = false := by decide) :
    PE ((cxOf CXg X.prog X.w X.K X.mg X.base Ng qg sg g cdg X.A X.stack s H Eg).tr pn xe) (.Call (.Name a p1) [] [] p2)
      (fun σZ HZ Q => σZ[i]? = some (some (.ref f)) ∧ HZ c' = some (CodeO c' (X.env.qual ++ "<lambda>")) ∧ tb σ HZ Q) := by
  refine ⟨fun pinsZ sZ σZ HZ Q IZ h => ?_⟩
  obtain ⟨hs, hc, ht⟩ := h
  refine wpAny_Call_Name_kw (thn ((pe_var (pos := p1) (i := i) hN hv hd hcd).run pinsZ sZ σZ HZ (fun v H1 => v = .ref f ∧ H1 = HZ) IZ ⟨.ref f, hs, rfl, rfl⟩) fun u s1 ⟨v, H1, I1, r1, q1⟩ => ?_)
  obtain ⟨ev, eH⟩ := q1
  subst ev
  rw [eH] at I1
  obtain rfl : u = Value.ref f := r1
  have of1 : s1.heap.get? f = some (fobj (X.env.qual ++ "<lambda>") params body scope (cloFrom X.env.cells scope.names []) dt doc pm c' ctv) := I1.base.keep f _ hf hfn hfr (fun z => nomatch (show f ∈ ([] : List Addr) from z))
  have odt : s1.heap.get? dt = some (PySem.W.kdv_tup [dv]) := I1.base.keep dt _ hdt hdn hdf (fun z => nomatch (show dt ∈ ([] : List Addr) from z))
  refine PySem.W.callWith_F0 ⟨_, _, _, _, of1⟩ ?_
  have un : Un (frs X.stack) [] H HZ s.heap s1.heap := I1.base
  obtain ⟨⟨oc, vs, t, hoc, hdc, hvc⟩, _, _⟩ := I1.hok c' _ hc
  have rc : codeAny (model X.prog X.w) (X.A.deeper (envOfC qg sg s.heap.objs.size g cdg)) (.call (.ref f) ⟨[], []⟩) (CR (L2.CX X.prog X.w) (envOfC qg sg s.heap.objs.size g cdg :: X.stack) X.prog X.w HZ s1 Q E) s1 := by
    refine PySem.W.kla_callFunE hr.depth of1 rfl L.co L.gen rfl ⟨c', oc, vs, t, rfl, hoc, hdc, hvc⟩ (hbind s1 odt _ _ _ _ ?_)
    refine wpAny_newFunctionEnv (fun y hy => (L.own y hy).1) (fun y hy => ?_) (fun h₁ hns hsb => ⟨I1.nolimit.fresh _ hsb, ?_⟩) L.kind
    · have : y = (x, dv) := by simpa using hy
      rw [this]; exact L.par
    show codeAny _ _ (.expr body (lamEnv X scope s1.heap.objs.size f c')) _ _
    have kp : ∀ b o, s1.heap.get? b = some o → h₁.get? b = some o := fun b o e => hsb.extBut b o (Nat.ne_of_lt (Heap.lt_size e)) (Heap.get?_push_of_some _ e)
    have J : Inv (lamCx X (X.A.deeper (envOfC qg sg s.heap.objs.size g cdg)) (envOfC qg sg s.heap.objs.size g cdg :: X.stack) s1 HZ E scope f c') [] σ HZ { s1 with heap := h₁, toks := s1.toks + ([(x, dv)] : List (Str × Value)).length } :=
      lam_startD I L hx I1.env0 hr.hd un hns kp
    refine PySem.W.kla_codeExpr (wpAny_mono ((hbody _ _ s1 HZ (hr.deeper _)).run [] _ _ HZ Q J ht) (fun v s' hq => ?_) fun e s' hq => hq)
    obtain ⟨w', H', J', rv, q⟩ := hq
    exact ⟨w', H', J'.os, J'.bare, J'.base, J'.hok, rv, q⟩
  have hxp : Passes (L2.CX X.prog X.w) ((cxOf CXg X.prog X.w X.K X.mg X.base Ng qg sg g cdg X.A X.stack s H Eg).tr pn xe) E := passes_call tk hW
  refine wpAny_call (codeAny_mono rc fun r s' hq => ?_)
  cases r with
  | error e => exact hxp pinsZ σZ HZ s1 e s' I1 hq
  | ok fl =>
    cases fl with
    | ret u => exact I1.after hq
    | next => exact False.elim hq
    | brk => exact False.elim hq
    | cont => exact False.elim hq
end
section
variable {X : Cx}
/-- x(lambda p=0: body) -/
theorem pe_lamcallD {T : List (Addr × Str)} {TT : (XK → Hp → VK → Prop) → Hp → VK → Prop} {x a y : Str} {g c P : Addr} {k : Nat} {pg : Arguments} {bg : List Stmt} {sg : Scope} {dV kV doc pm cdv ct oc : Value} {an od : Option Addr} {osl : Array (Option Value)} {Ng : List Str}
    {params : Arguments} {body : Expr} {scope : Scope} {t : XK → TE} {p lpos pos : Pos} {i : Int} {j : Nat} {dp : Pos} (hg : Gl X x) (hm : X.mg x = some (.ref g)) (hk : PySem.W.keepIn X.K (.ref g) = true)
    (lk : X.K.lookup g = some ⟨oc, od, .func (PySem.W.fnOf x x pg bg sg dV kV doc pm an cdv ct), osl⟩) (hcg : PySem.W.codeIn X.K cdv x = true) (hb : L2.Binds X.K (PySem.W.fnOf x x pg bg sg dV kV doc pm an cdv ct) [a] []) (Sg : FnScope Ng [a] sg) (hNg : Ng[0]? = some a) (hva : Vis sg a)
    (hG : GivesTo X Ng x sg g cdv bg a (X.env.qual ++ "<lambda>") TT)
    (TB : TabB X.base X.mg c P) (hcode : X.env.code = .ref c) (hmT : (P, X.env.qual ++ "<lambda>") ∈ T) (hu : ∀ p ∈ T, p.1 = P → p.2 = X.env.qual ++ "<lambda>") (hr : Room (k + 2) X.A) (L : LamS1 X.env.scope scope y) (hy : y ∉ X.N) (hd0 : params.defaults = [.Constant (.int i) j dp]) (hk0 : params.kw_defaults = [])
    (hbind : ∀ (q : Str) (cl : List (Str × Addr)) (dt : Addr) (dv doc pm cv ctv : Value) (s2 : Shared), s2.heap.get? dt = some (PySem.W.kdv_tup [dv]) → BindsTo s2 (PySem.W.kdv_fn "<lambda>" q params (.expr body) scope cl (.ref dt) doc pm cv ctv) ⟨[], []⟩ [(y, dv)])
    (hbody : ∀ (A : Around) (outer : List Env) (s : Shared) (H : Hp) (E : XK) (f c' : Addr), Room k (A.deeper (lamEnv X scope s.heap.objs.size f c')) → PE (lamCx X A outer s H E scope f c') body (t E))
    (hdb : (x == ("__debug__" : Str)) = false := by decide) (hd : (a == ("__debug__" : Str)) = false := by decide) (hcd : (a == ("__classdict__" : Str)) = false := by decide) :
    PE X (.Call (.Name x p) [.Lambda params body scope lpos] [] pos) (tLam T TT t) := by
  refine ⟨fun pins s σ H Q I h => ?_⟩
  obtain ⟨hT, h⟩ := h
  refine wpAny_Call_Name_kw (ld_glob I hg hm ?_ hdb)
  refine PySem.W.callWith_K (h₀ := X.base) I.ok.mod.kin hk ?_ (by rfl) (by rfl)
  show wpAny _ _ (spliced ((false, eval (.Lambda params body scope lpos) X.env) :: backTo pos (starEach [] X.env))) _ _ s
  refine Calls.spliced_cons (lam_makeD I TB hcode hmT hu hT hd0 hk0 (L.has I.ok) fun f c' dt dv doc pm' ctv H1 s' I1 eN T1 hdt hdn hdf _ hf hfn hfr hco => ?_)
  refine Calls.spliced_nil ⟨I1.kIn, ?_⟩
  have rc : codeAny (model X.prog X.w) X.A (.call (.ref g) ⟨[.ref f], []⟩) (CR C8.CX0 X.stack X.prog X.w H1 s' Q C8.E0) s' := by
    refine run_ofS (N := Ng) (ps := [a]) (us := [.ref f]) (vs := [.ref f]) lk hcg Sg hr I1.env0 (hb s' [.ref f] I1.kIn rfl) (.cons rfl .nil) rfl fun hr' => ?_
    obtain ⟨t', ht', hq'⟩ := hG f c' s' H1 Q (fun E H' Q' => t E σ H' Q') (fun W pn xe E p1 p2 tk hW => pe_actD (i := 0) I1 L hy hdt hdn hdf hf hfn hfr (fun s2 h2 => hbind _ _ _ _ _ _ _ _ s2 h2) tk hW hr' (fun A outer s H hr2 => hbody A outer s H E f c' hr2) hNg hva hd hcd) hco (h H1 eN T1)
    exact ⟨t', ht'.nox, hq'⟩
  refine wpAny_call (codeAny_mono rc fun r s2 hq => ?_)
  cases r with
  | error e => exact (show False from hq).elim
  | ok fl =>
    cases fl with
    | ret u => exact I1.after hq
    | next => exact False.elim hq
    | brk => exact False.elim hq
    | cont => exact False.elim hq
end
end LamD
end
section
/-! SwLs: lambdas that are kept and called later. -/
namespace LamL
open PySem PySem.Spec PyProof.Rows L2 LamX
/-- a lambda: its words, the cells that it captured, its code object, its default's tuple -/
structure LF where
  qual : Str
  params : Arguments
  body : Expr
  scope : Scope
  cl : List (Str × Addr)
  c : Addr
  df : Value
abbrev LF.obj (F : LF) (doc pm ctv : Value) : Obj := PySem.W.kdv_obj "<lambda>" F.qual F.params (.expr F.body) F.scope F.cl F.df doc pm F.c ctv
/-- the object at f is the lambda F -/
def LnO (f : Addr) (F : LF) : HO := .ext fun h => ∃ doc pm ctv : Value, h.get? f = some (F.obj doc pm ctv)
/-- a default's tuple -/
def TupO (d : Addr) (x : V) : HO := .ext fun h => ∃ dv : Value, RelV x dv ∧ h.get? d = some (PySem.W.kdv_tup [dv])
/-- a cell that a frame left -/
def CellO (c : Addr) (x : V) : HO := .ext fun h => ∃ u : Value, RelV x u ∧ h.IsCell c (some u)
theorem lnO_ne {f : Addr} {F : LF} (ps : Array Value) : LnO f F ≠ .tbl ps := fun z => by
  unfold LnO at z
  cases z
theorem tupO_ne {d : Addr} {x : V} (ps : Array Value) : TupO d x ≠ .tbl ps := fun z => by
  unfold TupO at z
  cases z
theorem lnO_at {P : Program} {w : World} {H : Hp} {h : Heap} {f : Addr} {F : LF} (hok : HOk P w H h) (e : H f = some (LnO f F)) : ∃ doc pm ctv : Value, h.get? f = some (F.obj doc pm ctv) := (hok f _ e).1
theorem tupO_at {P : Program} {w : World} {H : Hp} {h : Heap} {d : Addr} {x : V} (hok : HOk P w H h) (e : H d = some (TupO d x)) : ∃ dv : Value, RelV x dv ∧ h.get? d = some (PySem.W.kdv_tup [dv]) := (hok d _ e).1
theorem cellO_at {P : Program} {w : World} {H : Hp} {h : Heap} {c : Addr} {x : V} (hok : HOk P w H h) (e : H c = some (CellO c x)) : ∃ u : Value, RelV x u ∧ h.IsCell c (some u) := (hok c _ e).1
section
variable {X : Cx} {pins : List (Addr × Obj)} {σ : L2.St} {H : Hp} {s : Shared}
/-- a lambda's object just made is known from now on -/
theorem inv_ln {F : LF} {o : Obj} {t' : Nat} {doc pm ctv : Value} (I : Inv X pins σ H s) (ho : o = F.obj doc pm ctv) :
    Inv X pins σ (upd H s.heap.objs.size (LnO s.heap.objs.size F)) { s with heap := s.heap.push o, toks := t' } := by
  subst ho
  refine I.laid (a := s.heap.objs.size) (fun b u e => Heap.get?_push_of_some _ e) (Nat.le_refl _) ?_
  have e : (s.heap.push (F.obj doc pm ctv)).get? s.heap.objs.size = some (F.obj doc pm ctv) := Heap.get?_push_size _ rfl
  exact ⟨⟨doc, pm, ctv, e⟩, ⟨_, e⟩, fun h1 h2 ⟨d, p, t, z⟩ st => ⟨d, p, t, st _ z⟩⟩
/-- a default's tuple just made -/
theorem inv_tup {x : V} {u : Value} {t' : Nat} (I : Inv X pins σ H s) (r : RelV x u) :
    Inv X pins σ (upd H s.heap.objs.size (TupO s.heap.objs.size x)) { s with heap := s.heap.push (PySem.W.kdv_tup [u]), toks := t' } := by
  refine I.laid (a := s.heap.objs.size) (fun b u e => Heap.get?_push_of_some _ e) (Nat.le_refl _) ?_
  have e : (s.heap.push (PySem.W.kdv_tup [u])).get? s.heap.objs.size = some (PySem.W.kdv_tup [u]) := Heap.get?_push_size _ rfl
  exact ⟨⟨u, r, e⟩, ⟨_, e⟩, fun h1 h2 ⟨d, p, z⟩ st => ⟨d, p, st _ z⟩⟩
/-- the lambda's object is made: its code object is new, or found in the table -/
theorem lam_tail {T : List (Addr × Str)} {c P : Addr} {params : Arguments} {body : Expr} {scope : Scope} {pos : Pos} {ln : Nat} {dV : Value} {E : Value → Shared → Prop} {Q : Value → Shared → Prop} (I : Inv X pins σ H s) (TB : TabB X.base X.mg c P) (hcode : X.env.code = .ref c)
    (hm : (P, X.env.qual ++ "<lambda>") ∈ T) (hu : ∀ p ∈ T, p.1 = P → p.2 = X.env.qual ++ "<lambda>") (hT : Tabs T H) (hfree : ∀ y ∈ scope.names, y.2 = .free → ∃ c, X.env.cells.lookup y.1 = some c)
    (h : ∀ (f c' : Addr) (H1 : Hp) (s' : Shared), Inv X pins σ H1 s' → ExtN H H1 → (∀ b, H1 b = Option.none → H b = Option.none) → Tabs T H1 → H f = none → H1 f = some (LnO f ⟨X.env.qual ++ "<lambda>", params, body, scope, cloFrom X.env.cells scope.names [], c', dV⟩) → H1 c' = some (CodeO c' (X.env.qual ++ "<lambda>")) → Q (.ref f) s') :
    wpAny (model X.prog X.w) X.A (makeTail "<lambda>" (X.env.qual ++ "<lambda>") params (.expr body) scope X.env dV .none none pos ln) Q E s := by
  obtain ⟨ps, hP, ht, ha⟩ := hT _ hm
  have bP : s.heap.BuiltinsAt X.mg P := TB.bm.keeps I.bk
  have hP' : s.heap.get? P = some { cls := .none, data := .fields ps } := I.hok P _ hP
  cases hc : codeAmong pos ps.toList with
  | none =>
    refine PySem.W.kdv_makeTail (mg := X.mg) (c := c) (P := P) (ps := ps) (closure_ok hfree) I.ok.glob (I.mod.glob.keeps I.bk) hcode (TB.code.keeps I.bk) hP' ht hc TB.gP bP fun c' ctv doc h' tk hx hge hlt hrec htb => ?_
    obtain ⟨c2, oc, vs, t, e2, hoc, hdd, hv⟩ := hrec
    cases e2
    have nC : H c' = none := I.hok.fresh hge
    have I1 := inv_table (t' := tk) (more := #[rawInt pos.line, rawInt pos.col, .ref c']) (h' := h') I hP (fun b o hb e => hx b o hb e) htb hge ⟨oc, vs, t, hoc, hdd, hv⟩
    have hE : ExtN H (upd (upd H P (.tbl (ps ++ #[rawInt pos.line, rawInt pos.col, .ref c']))) c' (CodeO c' (X.env.qual ++ "<lambda>"))) := fun b o e n => by
      rw [upd_ne (ne_of_none e nC), upd_ne (fun z => n ps (Option.some.inj (e.symm.trans (by rw [z]; exact hP))))]
      exact e
    have eL : (ps ++ #[rawInt pos.line, rawInt pos.col, .ref c']).toList = ps.toList ++ [rawInt pos.line, rawInt pos.col, .ref c'] := by simp
    have T1 : Tabs T (upd (upd H P (.tbl (ps ++ #[rawInt pos.line, rawInt pos.col, .ref c']))) c' (CodeO c' (X.env.qual ++ "<lambda>"))) := fun p hp => by
      by_cases hb : p.1 = P
      · rw [hu p hp hb, hb]
        refine ⟨_, by rw [upd_ne (ne_of_none hP nC), upd_same], by rw [eL]; exact PySem.TriplesOk_snoc _ _ _ _ ht, fun p' cv hcv => ?_⟩
        rw [eL] at hcv
        rcases among_app _ ht hcv with z | z
        · obtain ⟨c0, e1, e2⟩ := ha p' cv z
          exact ⟨c0, e1, hE _ _ e2 codeO_ne⟩
        · exact ⟨c', z, upd_same⟩
      · obtain ⟨ps', a1, a2, a3⟩ := hT p hp
        refine ⟨ps', by rw [upd_ne (ne_of_none a1 nC), upd_ne hb]; exact a1, a2, fun p' cv hcv => ?_⟩
        obtain ⟨c0, e1, e2⟩ := a3 p' cv hcv
        exact ⟨c0, e1, hE _ _ e2 codeO_ne⟩
    have nF := I1.hok.fresh (Nat.le_refl _)
    have I2 := inv_ln (F := ⟨X.env.qual ++ "<lambda>", params, body, scope, cloFrom X.env.cells scope.names [], c', dV⟩) (t' := tk) (doc := doc) (pm := (X.mg "__name__").getD .none) (ctv := ctv) I1 rfl
    refine h h'.objs.size c' _ _ I2 (fun b o e n => ?_) (fun b e => NdefX.upd_none (NdefX.upd_none (NdefX.upd_none e))) (T1.ext fun b o e => ?_) (I.hok.fresh (Nat.le_trans hge (Nat.le_of_lt hlt))) upd_same ?_
    · have e1 := hE b o e n
      exact (upd_ne (ne_of_none e1 nF)).trans e1
    · exact (upd_ne (ne_of_none e nF)).trans e
    · exact (upd_ne (Nat.ne_of_lt hlt)).trans upd_same
  | some cv =>
    obtain ⟨c', e, hco⟩ := ha pos cv hc
    subst e
    refine PySem.W.kdv_makeTailHit (mg := X.mg) (c := c) (P := P) (ps := ps) (closure_ok hfree) I.ok.glob (I.mod.glob.keeps I.bk) hcode (TB.code.keeps I.bk) hP' ht hc bP fun ctv doc h' tk hx hsz => ?_
    have I1 : Inv X pins σ H { s with heap := h', toks := tk } := I.kept hx
    have nF : H h'.objs.size = none := I1.hok.fresh (Nat.le_refl _)
    have I2 := inv_ln (F := ⟨X.env.qual ++ "<lambda>", params, body, scope, cloFrom X.env.cells scope.names [], c', dV⟩) (t' := tk) (doc := doc) (pm := (X.mg "__name__").getD .none) (ctv := ctv) I1 rfl
    refine h h'.objs.size c' _ _ I2 (fun b o e n => ?_) (fun b e => NdefX.upd_none e) (hT.ext fun b o e => ?_) nF upd_same ?_
    · exact (upd_ne (ne_of_none e nF)).trans e
    · exact (upd_ne (ne_of_none e nF)).trans e
    · exact (upd_ne (ne_of_none hco nF)).trans hco
end
/-! ### a lambda, made -/
/-- the lambda that is made at X -/
abbrev LF.of (X : Cx) (params : Arguments) (body : Expr) (scope : Scope) (c' : Addr) (df : Value) : LF := ⟨X.env.qual ++ "<lambda>", params, body, scope, cloFrom X.env.cells scope.names [], c', df⟩
def tMk (T : List (Addr × Str)) (mk : Addr → LF) : TE := fun _ H Q => Tabs T H ∧ ∀ (f c' : Addr) (H1 : Hp), ExtN H H1 → (∀ b, H1 b = Option.none → H b = Option.none) → Tabs T H1 → H f = none → H1 f = some (LnO f (mk c')) → H1 c' = some (CodeO c' (mk c').qual) → Q (.ref f) H1
def tMkD (T : List (Addr × Str)) (mk : Addr → Value → LF) (x : V) : TE := fun _ H Q => Tabs T H ∧ ∀ (f c' dt : Addr) (H1 : Hp), ExtN H H1 → (∀ b, H1 b = Option.none → H b = Option.none) → Tabs T H1 → H f = none → H1 f = some (LnO f (mk c' (.ref dt))) → H1 c' = some (CodeO c' (mk c' (.ref dt)).qual) → H1 dt = some (TupO dt x) → Q (.ref f) H1
section
variable {X : Cx}
theorem pe_lam {T : List (Addr × Str)} {c P : Addr} {params : Arguments} {body : Expr} {scope : Scope} {pos : Pos} (TB : TabB X.base X.mg c P) (hcode : X.env.code = .ref c)
    (hm : (P, X.env.qual ++ "<lambda>") ∈ T) (hu : ∀ p ∈ T, p.1 = P → p.2 = X.env.qual ++ "<lambda>") (L : LamX.LamS X.env.scope scope) (hdef : defaultsOf params X.env = ([], [])) :
    PE X (.Lambda params body scope pos) (tMk T fun c' => LF.of X params body scope c' .none) := by
  refine ⟨fun pins s σ H Q I h => ?_⟩
  obtain ⟨hT, h⟩ := h
  refine PySem.W.kla_eval hdef ?_
  rw [makeFunction_eq]
  simp only [List.zip_nil_right, List.filterMap_nil, List.isEmpty_nil, if_true, pure_bind]
  exact lam_tail I TB hcode hm hu hT (L.has I.ok) fun f c' H1 s' I1 e n T1 hf h1 h2 => ⟨.ref f, H1, I1, rfl, h f c' H1 e n T1 hf h1 h2⟩
theorem pe_lamD {T : List (Addr × Str)} {c P : Addr} {params : Arguments} {body : Expr} {scope : Scope} {pos : Pos} {x : Str} {i : Int} {j : Nat} {dp : Pos} (TB : TabB X.base X.mg c P) (hcode : X.env.code = .ref c)
    (hm : (P, X.env.qual ++ "<lambda>") ∈ T) (hu : ∀ p ∈ T, p.1 = P → p.2 = X.env.qual ++ "<lambda>") (L : LamD.LamS1 X.env.scope scope x) (hd : params.defaults = [.Constant (.int i) j dp]) (hk0 : params.kw_defaults = []) :
    PE X (.Lambda params body scope pos) (tMkD T (fun c' df => LF.of X params body scope c' df) (.int i)) := by
  refine ⟨fun pins s σ H Q I h => ?_⟩
  obtain ⟨hT, h⟩ := h
  refine PySem.W.kdv_lam (by rw [hd]; rfl) hk0 ?_
  rw [hd]
  refine PySem.W.kdv_all1 (thn ((pe_int (X := X) (i := i) (j := j) (pos := dp)).run pins s σ H (fun v H1 => v = .int i ∧ H1 = H) I ⟨rfl, rfl⟩) fun u s0 ⟨v, H0, I0, r0, q0⟩ => PySem.W.kdv_all0 ?_)
  obtain ⟨e1, e2⟩ := q0
  subst e1 e2
  clear I
  rw [makeFunction_eq]
  simp only [List.zip_nil_right, List.filterMap_nil, List.isEmpty_nil, if_true, pure_bind, List.isEmpty_cons, Bool.false_eq_true, if_false]
  refine wpAny_bind (wpAny_newTextTuple ?_)
  have I1 := inv_tup (t' := s0.toks) I0 r0
  have nD : H0 s0.heap.objs.size = none := I0.hok.fresh (Nat.le_refl _)
  have hE : ∀ b o, H0 b = some o → upd H0 s0.heap.objs.size (TupO s0.heap.objs.size (.int i)) b = some o := fun b o e => (upd_ne (ne_of_none e nD)).trans e
  refine lam_tail I1 TB hcode hm hu (hT.ext hE) (L.has I0.ok) fun f c' H1 s' I2 e n T1 hf h1 h2 => ⟨.ref f, H1, I2, rfl, ?_⟩
  exact h f c' _ H1 ((ExtN.of hE).trans e) (fun b z => NdefX.upd_none (n b z)) T1 (NdefX.upd_none hf) h1 h2 (e _ _ upd_same (tupO_ne))
end
/-! ### what the captured cells hold -/
structure CellsS (cl : List (Str × Addr)) (N : List Str) (σ : L2.St) (h : Heap) (H : Hp) : Prop where
  len : σ.length = N.length
  all : ∀ y c, cl.lookup y = some c → H c = none ∧ ∃ v, h.IsCell c v
  inj : ∀ x y c, cl.lookup x = some c → cl.lookup y = some c → x = y
  has : ∀ (i : Nat) (y : Str) (v : V) (c : Addr), N[i]? = some y → σ[i]? = some (some v) → cl.lookup y = some c → ∃ u, L2.RelV v u ∧ h.IsCell c (some u)
theorem CellsS.later {cl : List (Str × Addr)} {N : List Str} {σ : L2.St} {fs ex : List Addr} {H H' : Hp} {h h' : Heap} (C : CellsS cl N σ h H) (u : Un fs ex H H' h h') (hx : ∀ y c, cl.lookup y = some c → c ∉ ex) : CellsS cl N σ h' H' := by
  have kp : ∀ y c, cl.lookup y = some c → ∀ v, h.IsCell c v → h'.IsCell c v := fun y c e v ⟨o, ho, hd⟩ => by
    obtain ⟨sl, q⟩ := u.any ho (C.all y c e).1 (hx y c e)
    exact ⟨_, q, hd⟩
  refine ⟨C.len, fun y c e => ?_, C.inj, fun i y v c e1 e2 e3 => ?_⟩
  · obtain ⟨n, v, z⟩ := C.all y c e
    refine ⟨?_, v, kp y c e v z⟩
    obtain ⟨o, ho, _⟩ := z
    exact u.free c o ho n (hx y c e)
  · obtain ⟨a, r, z⟩ := C.has i y v c e1 e2 e3
    exact ⟨a, r, kp y c e3 _ z⟩
/-- fewer names -/
theorem CellsS.sub {cl cl' : List (Str × Addr)} {N : List Str} {σ : L2.St} {H : Hp} {h : Heap} (C : CellsS cl N σ h H) (s : ∀ y c, cl'.lookup y = some c → cl.lookup y = some c) : CellsS cl' N σ h H :=
  ⟨C.len, fun y c e => C.all y c (s y c e), fun x y c e1 e2 => C.inj x y c (s x c e1) (s y c e2), fun i y v c e1 e2 e3 => C.has i y v c e1 e2 (s y c e3)⟩
section
variable {X : Cx} {pins : List (Addr × Obj)} {σ : L2.St} {H : Hp} {s : Shared}
theorem cells_s (I : Inv X pins σ H s) (cl : List (Str × Addr)) (sub : ∀ y c, cl.lookup y = some c → X.env.cells.lookup y = some c) (vis : ∀ y c, cl.lookup y = some c → X.env.scope.names.lookup y = some .cell ∨ X.env.scope.names.lookup y = some .free) : CellsS cl X.N σ s.heap H := by
  refine ⟨I.len, fun y c e => ⟨I.freeC y c (sub y c e), I.cell y c (sub y c e)⟩, fun x y c e1 e2 => I.ok.inj x y c (sub x c e1) (sub y c e2), fun i y v c e1 e2 e3 => ?_⟩
  obtain ⟨m, hn, hl⟩ := I.loc
  have k := vis y c e3
  obtain ⟨u, r, l⟩ := hl i y v e1 e2 (k.elim (fun z => .inr (.inl z)) fun z => .inr (.inr z))
  rcases l with ⟨z, _⟩ | ⟨_, a', ha', hcell⟩
  · have z' : X.env.scope.names.lookup y = some .local := z
    rcases k with k | k <;> rw [k] at z' <;> cases z'
  · rw [sub y c e3] at ha'
    cases ha'
    exact ⟨u, r, hcell⟩
/-- .. of a lambda that X makes -/
theorem cells_lam (I : Inv X pins σ H s) {scope : Scope} (hf : ∀ y ∈ scope.names, y.2 = .free → X.env.scope.names.lookup y.1 = some .cell ∨ X.env.scope.names.lookup y.1 = some .free) : CellsS (cloFrom X.env.cells scope.names []) X.N σ s.heap H := by
  have hfree : ∀ y ∈ scope.names, y.2 = .free → ∃ c, X.env.cells.lookup y.1 = some c := fun y hy e => (hf y hy e).elim (fun k => I.ok.has _ (.inl k)) fun k => I.ok.has _ (.inr k)
  refine cells_s I _ (fun y c e => NdefX.clo_cm hfree e) fun y c e => ?_
  rcases cloFrom_mem (PySem.mem_of_lookup e) with hm | ⟨h1, _⟩
  · cases hm
  · exact hf _ h1 rfl
end
/-! ### its promise -/
/-- the context of its body, at its entry -/
def lcx (P : Program) (w : World) (K : PySem.W.Frag) (mg : Str → Option Value) (base : Heap) (N : List Str) (F : LF) (f : Addr) (A : Around) (outer : List Env) (s : Shared) (H : Hp) (E : XK) : Cx where
  prog := P
  w := w
  K := K
  mg := mg
  base := base
  A := A.deeper (PySem.W.envX F.qual F.scope s.heap.objs.size f (.ref F.c) F.cl)
  N := N
  s_0 := s
  H_0 := H
  env := PySem.W.envX F.qual F.scope s.heap.objs.size f (.ref F.c) F.cl
  outer := outer
  stack := PySem.W.envX F.qual F.scope s.heap.objs.size f (.ref F.c) F.cl :: outer
  ex := []
  fn := fun _ => false
  calm := true
  pn := []
  xe := fun e s' => wpAny (model P w) (A.deeper (PySem.W.envX F.qual F.scope s.heap.objs.size f (.ref F.c) F.cl)) (leaving (PySem.W.envX F.qual F.scope s.heap.objs.size f (.ref F.c) F.cl) e) (fun _ s'' => L2.CX P w outer H s E e s'') (fun e' s'' => L2.CX P w outer H s E e' s'') s'
/-- its names: captured ones, and parameters ps that the maker has not -/
structure LSc (N ps : List Str) (F : LF) : Prop where
  kind : F.scope.kind = .function
  co : F.scope.isCoroutine = false
  gen : F.scope.isGenerator = false
  own : ∀ y ∈ F.scope.names, y.2 ≠ .cell ∧ (y.2 = .local → y.1 ∈ ps)
  par : ∀ x ∈ ps, F.scope.names.lookup x = some .local
  new : ∀ x ∈ ps, x ∉ N
  free : ∀ y ∈ F.scope.names, y.2 = .free → ∃ c, F.cl.lookup y.1 = some c
section
variable {P : Program} {w : World} {K : PySem.W.Frag} {mg : Str → Option Value} {base : Heap} {N ps : List Str} {F : LF} {f : Addr} {A : Around} {outer : List Env} {s : Shared} {H : Hp} {E : XK} {us : List Value} {σ : L2.St}
theorem l_start {h₁ : Heap} {tk : Nat} {bs : List (Str × Value)} (S : LSc N ps F) (hd : A.handled = none) (e0 : Env0 P w K mg base A outer s H) (C : CellsS F.cl N σ s.heap H) (hns : h₁.Ns s.heap.objs.size fun y => bs.reverse.lookup y)
    (kp : ∀ b o, s.heap.get? b = some o → h₁.get? b = some o) : Inv (lcx P w K mg base N F f A outer s H E) [] σ H { s with heap := h₁, toks := tk } := by
  have noA : ∀ b : Addr, b ∉ (lcx P w K mg base N F f A outer s H E).ex := fun b z => absurd (show b ∈ ([] : List Addr) from z) (by simp)
  have cellK : ∀ {c : Addr} {v : Option Value}, s.heap.IsCell c v → h₁.IsCell c v := fun {c v} ⟨o, ho, hd⟩ => ⟨o, kp _ _ ho, hd⟩
  refine ⟨⟨e0.mod, S.kind, rfl, rfl, Nat.le_refl _, C.inj, fun y hy => ?_, fun y c z _ => ?_, fun _ => hd, Around.frames_deeper e0.frames, .inr ⟨rfl, rfl⟩, fun b z => absurd z (noA b), e0.bs, e0.bsz, fun b _ _ => noA b,
      fun b z => absurd z (noA b), e0.funs, e0.frf⟩,
    rfl, e0.bare, Un.kept kp, ⟨_, hns, fun i y v e1 e2 e3 => ?_⟩, fun y c e => ?_, e0.hok.fresh (Nat.le_refl _), fun y c e => (C.all y c e).1, fun q hq => absurd (show q ∈ ([] : List (Addr × Obj)) ++ [] from hq) (by simp), e0.hok.kept kp, C.len⟩
  · have hy : F.scope.names.lookup y = some .cell ∨ F.scope.names.lookup y = some .free := hy
    rcases hy with hy | hy
    · exact absurd rfl (S.own _ (PySem.mem_of_lookup hy)).1
    · exact S.free _ (PySem.mem_of_lookup hy) rfl
  · have z : false = true := z
    cases z
  · have e3 : Vis F.scope y := e3
    rcases e3 with k | k | k
    · have e1 : N[i]? = some y := e1
      exact absurd (List.mem_of_getElem? e1) (S.new _ ((S.own _ (PySem.mem_of_lookup k)).2 rfl))
    · exact absurd rfl (S.own _ (PySem.mem_of_lookup k)).1
    · obtain ⟨c, hc⟩ := S.free _ (PySem.mem_of_lookup k) rfl
      obtain ⟨u, r, z⟩ := C.has i y v c e1 e2 hc
      exact ⟨u, r, .inr ⟨.inr k, c, hc, cellK z⟩⟩
  · obtain ⟨v, z⟩ := (C.all y c e).2
    exact ⟨v, cellK z⟩
/-- its default's tuple stands -/
def DfOk (F : LF) (H : Hp) : Prop := F.df = .none ∨ ∃ (dt : Addr) (x : V), F.df = .ref dt ∧ H dt = some (TupO dt x)
/-- the promise of the lambda F at f, called without arguments -/
def LOk (P : Program) (w : World) (K : PySem.W.Frag) (mg : Str → Option Value) (base : Heap) (k : Nat) (f : Addr) (F : LF) (N : List Str) (σ : L2.St) (sp : XK → Hp → VK → Prop) : Prop :=
  ∀ (A : Around) (outer : List Env) (s : Shared) (H : Hp) (Q : VK) (E : XK), Room k A → Env0 P w K mg base A outer s H → H f = some (LnO f F) → H F.c = some (CodeO F.c F.qual) → DfOk F H → CellsS F.cl N σ s.heap H → sp E H Q →
    codeAny (model P w) A (.call (.ref f) ⟨[], []⟩) (CR (L2.CX P w) outer P w H s Q E) s
theorem LOk.mono {k j : Nat} {sp : XK → Hp → VK → Prop} (o : LOk P w K mg base j f F N σ sp) (h : j ≤ k) : LOk P w K mg base k f F N σ sp := fun A outer s H Q E hr => o A outer s H Q E (hr.mono h)
/-- what a lambda's call binds -/
def LBinds (F : LF) (ps : List Str) : Prop := ∀ (P : Program) (w : World) (s : Shared) (H : Hp) (doc pm ctv : Value), HOk P w H s.heap → DfOk F H → ∃ bs : List (Str × Value), BindsTo s (PySem.W.kdv_fn "<lambda>" F.qual F.params (.expr F.body) F.scope F.cl F.df doc pm (.ref F.c) ctv) ⟨[], []⟩ bs ∧ ∀ y ∈ bs, y.1 ∈ ps
theorem lbinds0 {F : LF} (h0 : F.df = .none) (h : ∀ doc pm ctv : Value, bindArgs (PySem.W.kdv_fn "<lambda>" F.qual F.params (.expr F.body) F.scope F.cl .none doc pm (.ref F.c) ctv) ⟨[], []⟩ = pure []) : LBinds F [] := fun P w s H doc pm ctv _ _ => ⟨[], by rw [h0]; exact .of_eq (h doc pm ctv), fun y hy => absurd hy (by simp)⟩
theorem lbinds1 {F : LF} {x : Str} {dt : Addr} (h0 : F.df = .ref dt) (h : ∀ (q : Str) (cl : List (Str × Addr)) (dt : Addr) (dv doc pm cv ctv : Value) (s2 : Shared), s2.heap.get? dt = some (PySem.W.kdv_tup [dv]) → BindsTo s2 (PySem.W.kdv_fn "<lambda>" q F.params (.expr F.body) F.scope cl (.ref dt) doc pm cv ctv) ⟨[], []⟩ [(x, dv)]) : LBinds F [x] := by
  intro P w s H doc pm ctv hok hd
  rcases hd with z | ⟨dt', y, z, ht⟩
  · rw [h0] at z; cases z
  · obtain ⟨dv, _, e⟩ := tupO_at hok ht
    refine ⟨[(x, dv)], by rw [z]; exact h _ _ _ _ _ _ _ _ _ e, fun y hy => ?_⟩
    have : y = (x, dv) := by simpa using hy
    rw [this]; exact List.mem_singleton.mpr rfl
theorem lok_of {k : Nat} {t : XK → TE} (S : LSc N ps F) (hb : LBinds F ps)
    (hbody : ∀ (A : Around) (outer : List Env) (s : Shared) (H : Hp) (E : XK), Room k (A.deeper (PySem.W.envX F.qual F.scope s.heap.objs.size f (.ref F.c) F.cl)) → PE (lcx P w K mg base N F f A outer s H E) F.body (t E)) :
    LOk P w K mg base (k + 1) f F N σ (fun E H Q => t E σ H Q) := by
  intro A outer s H Q E hr e0 hf hc hdf C ht
  have lim : s.heap.NoLimit := e0.mod.nolimit.keeps fun b o e => (e0.bs b o e).1
  obtain ⟨doc, pm, ctv, ho⟩ := lnO_at e0.hok hf
  obtain ⟨bs, hbt, hbs⟩ := hb P w s H doc pm ctv e0.hok hdf
  refine PySem.W.kla_callFunE hr.depth ho rfl S.co S.gen rfl (NdefX.codeO_at e0.hok hc) (hbt _ _ _ _ ?_)
  refine wpAny_newFunctionEnv (fun y hy => (S.own y hy).1) (fun y hy => S.par _ (hbs y hy)) (fun h₁ hns hsb => ⟨lim.fresh _ hsb, ?_⟩) S.kind
  show codeAny _ _ (.expr F.body (PySem.W.envX F.qual F.scope s.heap.objs.size f (.ref F.c) F.cl)) _ _
  have kp : ∀ b o, s.heap.get? b = some o → h₁.get? b = some o := fun b o e => hsb.extBut b o (Nat.ne_of_lt (Heap.lt_size e)) (Heap.get?_push_of_some _ e)
  have J : Inv (lcx P w K mg base N F f A outer s H E) [] σ H { s with heap := h₁, toks := s.toks + bs.length } := l_start S hr.hd e0 C hns kp
  refine PySem.W.kla_codeExpr (wpAny_mono ((hbody _ _ s H E (hr.deeper _)).run [] _ _ H Q J ht) (fun v s' hq => ?_) fun e s' hq => hq)
  obtain ⟨w', H', J', rv, q⟩ := hq
  exact ⟨w', H', J'.os, J'.bare, J'.base, J'.hok, rv, q⟩
end
/-! ### a kept lambda handed to a def that calls it -/
section
variable {X : Cx} {pins : List (Addr × Obj)} {σ : L2.St} {H : Hp} {s : Shared}
theorem lnO_fn {f : Addr} {F : LF} (hok : HOk X.prog X.w H s.heap) (e : H f = some (LnO f F)) : PySem.W.FnAt f s.heap := by
  obtain ⟨doc, pm, ctv, ho⟩ := lnO_at hok e
  exact ⟨_, _, _, _, ho⟩
/-- a(), in the def that got the lambda: that def was entered at s -/
theorem pe_actL {CXg : CXT} {Eg : XK} {Ng N : List Str} {qg : Str} {sg : Scope} {g f : Addr} {cdg : Value} {F : LF} {σ' : L2.St} {k i : Nat} {a : Str} {pn : List (Addr × Obj)} {xe : Value → Shared → Prop} {W : WX} {E : XK} {sp : XK → Hp → VK → Prop} {p1 p2 : Pos}
    (C : CellsS F.cl N σ' s.heap H) (o : LOk X.prog X.w X.K X.mg X.base k f F N σ' sp)
    (tk : Takes ((cxOf CXg X.prog X.w X.K X.mg X.base Ng qg sg g cdg X.A X.stack s H Eg).tr pn xe) W) (hW : ∀ cls d σ' H', E cls d H' → W cls d σ' H') (hr : Room k (X.A.deeper (envOfC qg sg s.heap.objs.size g cdg)))
    (hN : Ng[i]? = some a) (hv : Vis sg a) (hd : (a == ("__debug__" : Str)) = false := by decide) (hcd : (a == ("__classdict__" : Str)) = false := by decide) :
    PE ((cxOf CXg X.prog X.w X.K X.mg X.base Ng qg sg g cdg X.A X.stack s H Eg).tr pn xe) (.Call (.Name a p1) [] [] p2)
      (fun σZ HZ Q => σZ[i]? = some (some (.ref f)) ∧ HZ F.c = some (CodeO F.c F.qual) ∧ HZ f = some (LnO f F) ∧ DfOk F HZ ∧ sp E HZ Q) := by
  refine ⟨fun pinsZ sZ σZ HZ Q IZ h => ?_⟩
  obtain ⟨hs, hcZ, hfZ, hdZ, ht⟩ := h
  refine wpAny_Call_Name_kw (thn ((pe_var (pos := p1) (i := i) hN hv hd hcd).run pinsZ sZ σZ HZ (fun v H1 => v = .ref f ∧ H1 = HZ) IZ ⟨.ref f, hs, rfl, rfl⟩) fun u s1 ⟨v, H1, I1, r1, q1⟩ => ?_)
  obtain ⟨ev, eH⟩ := q1
  subst ev
  rw [eH] at I1
  obtain rfl : u = Value.ref f := r1
  refine PySem.W.callWith_F0 (lnO_fn (X := X) I1.hok hfZ) ?_
  have un : Un (frs X.stack) [] H HZ s.heap s1.heap := I1.base
  have C1 : CellsS F.cl N σ' s1.heap HZ := C.later un (fun _ _ _ => by simp)
  have rc : codeAny (model X.prog X.w) (X.A.deeper (envOfC qg sg s.heap.objs.size g cdg)) (.call (.ref f) ⟨[], []⟩) (CR (L2.CX X.prog X.w) (envOfC qg sg s.heap.objs.size g cdg :: X.stack) X.prog X.w HZ s1 Q E) s1 :=
    o _ _ s1 HZ Q E hr I1.env0 hfZ hcZ hdZ C1 ht
  have hxp : Passes (L2.CX X.prog X.w) ((cxOf CXg X.prog X.w X.K X.mg X.base Ng qg sg g cdg X.A X.stack s H Eg).tr pn xe) E := passes_call tk hW
  refine wpAny_call (codeAny_mono rc fun r s' hq => ?_)
  cases r with
  | error e => exact hxp pinsZ σZ HZ s1 e s' I1 hq
  | ok fl =>
    cases fl with
    | ret u => exact I1.after hq
    | next => exact False.elim hq
    | brk => exact False.elim hq
    | cont => exact False.elim hq
end
/-- x(w), w a name that holds a kept lambda F with F N σ in Φ -/
def tToldW (P : Program) (w : World) (K : PySem.W.Frag) (mg : Str → Option Value) (base : Heap) (k i : Nat) (TT : (XK → Hp → VK → Prop) → Hp → VK → Prop) (Φ : LF → List Str → L2.St → Prop) : TE := fun σ H Q => ∃ (f : Addr) (F : LF) (N : List Str) (σ' : L2.St) (sp : XK → Hp → VK → Prop),
  σ[i]? = some (some (.ref f)) ∧ Φ F N σ' ∧ H f = some (LnO f F) ∧ H F.c = some (CodeO F.c F.qual) ∧ DfOk F H ∧ LOk P w K mg base k f F N σ' sp ∧ TT (fun E HZ Q => HZ f = some (LnO f F) ∧ DfOk F HZ ∧ sp E HZ Q) H Q
section
variable {X : Cx}
theorem pe_toldW {TT : (XK → Hp → VK → Prop) → Hp → VK → Prop} {Φ : LF → List Str → L2.St → Prop} {x a wn : Str} {g : Addr} {k i : Nat} {pg : Arguments} {bg : List Stmt} {sg : Scope} {dV kV doc pm cdv ct oc : Value} {an od : Option Addr} {osl : Array (Option Value)} {Ng : List Str}
    {p p2 pos : Pos} (hΦ : ∀ F N σ', Φ F N σ' → CellsS F.cl N σ' X.s_0.heap X.H_0 ∧ ∀ y c, F.cl.lookup y = some c → c ∉ X.ex) (hg : Gl X x) (hm : X.mg x = some (.ref g)) (hk : PySem.W.keepIn X.K (.ref g) = true)
    (lk : X.K.lookup g = some ⟨oc, od, .func (PySem.W.fnOf x x pg bg sg dV kV doc pm an cdv ct), osl⟩) (hcg : PySem.W.codeIn X.K cdv x = true) (hb : L2.Binds X.K (PySem.W.fnOf x x pg bg sg dV kV doc pm an cdv ct) [a] []) (Sg : FnScope Ng [a] sg) (hNg : Ng[0]? = some a) (hva : Vis sg a)
    (hG : ∀ q : Str, GivesTo X Ng x sg g cdv bg a q TT) (hr : Room (k + 1) X.A) (hN : X.N[i]? = some wn) (hv : Vis X.env.scope wn)
    (hdb : (x == ("__debug__" : Str)) = false := by decide) (hd : (a == ("__debug__" : Str)) = false := by decide) (hcd : (a == ("__classdict__" : Str)) = false := by decide) (hd2 : (wn == ("__debug__" : Str)) = false := by decide) (hcd2 : (wn == ("__classdict__" : Str)) = false := by decide) :
    PE X (.Call (.Name x p) [.Name wn p2] [] pos) (tToldW X.prog X.w X.K X.mg X.base k i TT Φ) := by
  refine ⟨fun pins s σ H Q I h => ?_⟩
  obtain ⟨f, F, N, σ', sp, hs, hph, hf, hc, hdf, o, h⟩ := h
  refine wpAny_Call_Name_kw (ld_glob I hg hm ?_ hdb)
  refine PySem.W.callWith_K (h₀ := X.base) I.ok.mod.kin hk ?_ (by rfl) (by rfl)
  show wpAny _ _ (spliced ((false, eval (.Name wn p2) X.env) :: backTo pos (starEach [] X.env))) _ _ s
  refine Calls.spliced_cons (thn ((pe_var (pos := p2) (i := i) hN hv hd2 hcd2).run pins s σ H (fun v H1 => v = .ref f ∧ H1 = H) I ⟨.ref f, hs, rfl, rfl⟩) fun u s1 ⟨v, H1, I1, r1, q1⟩ => ?_)
  obtain ⟨ev, eH⟩ := q1
  subst ev
  rw [eH] at I1
  obtain rfl : u = Value.ref f := r1
  refine Calls.spliced_nil ⟨I1.kIn, ?_⟩
  obtain ⟨C, nx⟩ := hΦ F N σ' hph
  have C1 := C.later I1.base nx
  have rc : codeAny (model X.prog X.w) X.A (.call (.ref g) ⟨[.ref f], []⟩) (CR C8.CX0 X.stack X.prog X.w H s1 Q C8.E0) s1 := by
    refine run_ofS (N := Ng) (ps := [a]) (us := [.ref f]) (vs := [.ref f]) lk hcg Sg hr I1.env0 (hb s1 [.ref f] I1.kIn rfl) (.cons rfl .nil) rfl fun hr' => ?_
    obtain ⟨t', ht', hq'⟩ := hG F.qual f F.c s1 H Q (fun E HZ Q => HZ f = some (LnO f F) ∧ DfOk F HZ ∧ sp E HZ Q) (fun W pn xe E p1 p2 tk hW => pe_actL (i := 0) C1 o tk hW hr' hNg hva hd hcd) hc h
    exact ⟨t', ht'.nox, hq'⟩
  refine wpAny_call (codeAny_mono rc fun r s2 hq => ?_)
  cases r with
  | error e => exact (show False from hq).elim
  | ok fl =>
    cases fl with
    | ret u => exact I1.after hq
    | next => exact False.elim hq
    | brk => exact False.elim hq
    | cont => exact False.elim hq
end
section
/-- the same, the context's parts named (for a comprehension's block) -/
theorem pe_toldWK {X : Cx} {P : Program} {w : World} {K : PySem.W.Frag} {mg : Str → Option Value} {base : Heap} (e1 : X.prog = P) (e2 : X.w = w) (e3 : X.K = K) (e4 : X.mg = mg) (e5 : X.base = base) {TT : (XK → Hp → VK → Prop) → Hp → VK → Prop} {Φ : LF → List Str → L2.St → Prop} {x a wn : Str} {g : Addr} {k i : Nat} {pg : Arguments} {bg : List Stmt} {sg : Scope} {dV kV doc pm cdv ct oc : Value} {an od : Option Addr} {osl : Array (Option Value)} {Ng : List Str}
    {p p2 pos : Pos} (hΦ : ∀ F N σ', Φ F N σ' → CellsS F.cl N σ' X.s_0.heap X.H_0 ∧ ∀ y c, F.cl.lookup y = some c → c ∉ X.ex) (hg : Gl X x) (hm : mg x = some (.ref g)) (hk : PySem.W.keepIn K (.ref g) = true)
    (lk : K.lookup g = some ⟨oc, od, .func (PySem.W.fnOf x x pg bg sg dV kV doc pm an cdv ct), osl⟩) (hcg : PySem.W.codeIn K cdv x = true) (hb : L2.Binds K (PySem.W.fnOf x x pg bg sg dV kV doc pm an cdv ct) [a] []) (Sg : FnScope Ng [a] sg) (hNg : Ng[0]? = some a) (hva : Vis sg a)
    (hG : ∀ q : Str, GivesTo X Ng x sg g cdv bg a q TT) (hr : Room (k + 1) X.A) (hN : X.N[i]? = some wn) (hv : Vis X.env.scope wn)
    (hdb : (x == ("__debug__" : Str)) = false := by decide) (hd : (a == ("__debug__" : Str)) = false := by decide) (hcd : (a == ("__classdict__" : Str)) = false := by decide) (hd2 : (wn == ("__debug__" : Str)) = false := by decide) (hcd2 : (wn == ("__classdict__" : Str)) = false := by decide) :
    PE X (.Call (.Name x p) [.Name wn p2] [] pos) (tToldW P w K mg base k i TT Φ) := by
  subst e1 e2 e3 e4 e5
  exact pe_toldW hΦ hg hm hk lk hcg hb Sg hNg hva hG hr hN hv hdb hd hcd hd2 hcd2
end
/-! ### cells that are forgotten -/
def er (cs : List Addr) (H : Hp) : Hp := fun b => if b ∈ cs then none else H b
theorem er_some {cs : List Addr} {H : Hp} {b : Addr} {o : HO} (e : er cs H b = some o) : b ∉ cs ∧ H b = some o := by
  unfold er at e
  split at e
  · cases e
  · rename_i h
    exact ⟨h, e⟩
theorem er_none {cs : List Addr} {H : Hp} {b : Addr} (e : H b = none) : er cs H b = none := by
  unfold er
  split
  · rfl
  · exact e
theorem er_of {cs : List Addr} {H : Hp} {b : Addr} {o : HO} (n : b ∉ cs) (e : H b = some o) : er cs H b = some o := by
  unfold er
  rw [if_neg n]; exact e
/-- only cells are among them -/
def CellsIn (cs : List Addr) (H : Hp) : Prop := ∀ c ∈ cs, ∃ x, H c = some (CellO c x)
theorem CellsIn.out {cs : List Addr} {H : Hp} (h : CellsIn cs H) {b : Addr} {o : HO} (e : H b = some o) (ne : ∀ x, o ≠ CellO b x) : b ∉ cs := fun hb => by
  obtain ⟨x, z⟩ := h b hb
  rw [e] at z
  exact ne x (Option.some.inj z)
section
variable {X : Cx} {pins : List (Addr × Obj)} {σ : L2.St} {H : Hp} {s : Shared}
theorem inv_er {cs : List Addr} (hc : CellsIn cs H) (I : Inv X pins σ H s) : Inv X pins σ (er cs H) s := by
  have up : ∀ {b : Addr} {o : HO}, (∀ x, o ≠ CellO b x) → H b = some o → er cs H b = some o := fun ne e => er_of (hc.out e ne) e
  have u := I.base
  refine ⟨I.ok, I.os, I.bare, ⟨u.keep, u.slot, fun b o e n hx => er_none (u.free b o e n hx), u.there, fun b xs e => up (fun x z => by unfold CellO at z; cases z) (u.tups b xs e), fun b o v e => up (fun x z => by unfold CellO at z; cases z) (u.frzs b o v e), fun b ps e => ?_⟩, I.loc, I.cell, er_none I.free, fun y c e => er_none (I.freeC y c e), fun p hp => ?_, fun a o e => ?_, I.len⟩
  · obtain ⟨more, z⟩ := u.tbls b ps e
    exact ⟨more, up (fun x z => by unfold CellO at z; cases z) z⟩
  · obtain ⟨a, b, c⟩ := I.pin p hp
    exact ⟨a, er_none b, c⟩
  · obtain ⟨n, e⟩ := er_some e
    exact (I.hok a o e).stay (fun b u _ q => q) (fun b q => up (fun x z => by unfold CellO at z; cases z) q) fun b xs q => up (fun x z => by unfold CellO at z; cases z) q
end
/-! ### a comprehension whose test calls kept lambdas (turned from HandS.Comp's rule for a list comprehension) -/
abbrev Phi := LF → List Str → L2.St → Prop
/-- Φ's lambdas have their cells at s, H -/
def PhiAt (Φ : Phi) (h : Heap) (H : Hp) (fp : List Addr) : Prop := ∀ F N σ', Φ F N σ' → CellsS F.cl N σ' h H ∧ ∀ y c, F.cl.lookup y = some c → c ∉ fp
section
variable {X : Cx}
def tLcF (X : Cx) (wi : TI) (g : TG) (tt : Phi → TT) (te : TE) (vs : List Nat) : TE := fun σ H Q => wi σ H fun J H1 => ∀ D, H1 D = none → ∃ (cs : List Addr) (Φ : Phi), CellsIn cs H1 ∧
  (∀ pins s, Inv X pins σ (upd H1 D (.lst [])) s → ∀ F N σ', Φ F N σ' → CellsS F.cl N σ' s.heap (er cs (upd H1 D (.lst [])))) ∧ (∀ F N σ', Φ F N σ' → ∀ y c, F.cl.lookup y = some c → (∃ x, X.env.cells.lookup x = some c) ∨ c ∈ cs) ∧
  ∃ W : Nat → Nat → Hp → Prop, (∃ m, W 0 m (er cs (upd H1 D (.lst [])))) ∧ ∀ i m H, W i m H →
  (J.stop i H ∧ Q (.ref D) H) ∨ (J.go i H ∧ ∃ Nx : Hp → Prop, (∀ H', Nx H' → ∃ m', m' < m ∧ W (i + 1) m' H') ∧ ∀ x H', J.yld i H x H' → g x (wipe σ vs) H' fun σ2 H2 => wipe σ2 vs = wipe σ vs ∧ tt Φ σ2 H2 fun b H3 =>
    if b = true then te σ2 H3 fun y H4 => ∃ acc, H4 D = some (.lst acc) ∧ acc.length < sizeLine ∧ Nx (upd H4 D (.lst (acc ++ [y]))) else Nx H3)
theorem pe_lcF {elt tg iter : Expr} {ifs : List Expr} {scope : Scope} {own : List (Str × Nat)} {pos : Pos} {wi : TI} {g : TG} {tt : Phi → TT} {te : TE} (hc : X.calm = true) (hN : X.N.Nodup) (hi : PI X tg iter wi) (ok : BlkOk X.N X.env.scope scope own)
    (hg : ∀ (s : Shared) (H : Hp) (C : Addr) (cl : List (Str × Addr)) (fp : List Addr), PG (X.blk s H scope (compEnvC scope cl C X.env) fp) tg g)
    (ht : ∀ (Φ : Phi) (s : Shared) (H : Hp) (C : Addr) (cl : List (Str × Addr)) (fp : List Addr), PhiAt Φ s.heap H fp → PTs (X.blk s H scope (compEnvC scope cl C X.env) fp) ifs (tt Φ))
    (he : ∀ (s : Shared) (H : Hp) (C : Addr) (cl : List (Str × Addr)) (fp : List Addr), PE (X.blk s H scope (compEnvC scope cl C X.env) fp) elt te) (hs : ∀ x, foldedSetIterable iter X.env x = pure x := by intro _; rfl) :
    PE X (.ListComp elt [⟨tg, iter, ifs, 0⟩] scope pos) (tLcF X wi g tt te (own.map (·.2))) := by
  refine ⟨fun pins s σ H Q I h => ?_⟩
  rw [eval_ListComp]
  have hfree : ∀ y ∈ scope.names, y.2 = .free → ∃ c, X.env.cells.lookup y.1 = some c := fun y hy e => by
    rcases ok.free y hy e with k | k
    · exact I.ok.has _ (.inl k)
    · exact I.ok.has _ (.inr k)
  refine wpAny_comprehension_free rfl hs (closure_ok hfree) ok.kind (fun y hy e => by rw [ok.uniq y hy, e])
    (thn (hi.run pins s σ H _ I h) fun xv s1 hx => thn hx fun itv s2 h2 => ?_)
  obtain ⟨it, fp, tn, J, H2, e, I2, T, st2, f2, q⟩ := h2
  subst e
  refine wpAny_newObj_type (newEnv_comp ?_) (by show 0 ≤ sizeLine; decide)
  generalize hD : s2.heap.objs.size = D
  have hDn : H2 D = none := I2.hok.fresh (Nat.le_of_eq hD)
  obtain ⟨cs, Φ, hcs, hcell, hcl, W, ⟨m0, w0⟩, turn⟩ := q D hDn
  generalize hs3 : ({ s2 with heap := s2.heap.push { cls := .type "list", data := .seq ([] : List Value).toArray } } : Shared) = s3
  have I3a : Inv X pins σ (upd H2 D (.lst [])) s3 := by
    rw [← hs3]
    refine I2.laid (t' := s2.toks) (fun b o e => Heap.get?_push_of_some _ e) (Nat.le_of_eq hD) ⟨Nat.zero_le _, [], 0, .nil, ?_⟩
    rw [← hD]
    exact Heap.get?_push_size _ rfl
  have hcs3 : CellsIn cs (upd H2 D (.lst [])) := fun c hc => by
    obtain ⟨x, z⟩ := hcs c hc
    exact ⟨x, (upd_ne (ne_of_none z hDn)).trans z⟩
  have I3 := inv_er hcs3 I3a
  have cell3 := hcell pins s3 I3a
  have h3 : s3.heap = s2.heap.push { cls := .type "list", data := .seq ([] : List Value).toArray } := by rw [← hs3]
  have sz : ∀ b ∈ fp, b < s2.heap.objs.size := fun b hb => by
    obtain ⟨o, e, _⟩ := T.obj _ _ st2 b hb
    exact Heap.lt_size e
  have f3 : ∀ b ∈ fp, FpOk X pins (er cs (upd H2 D (.lst []))) b ∧ b < s3.heap.objs.size := fun b hb => by
    have hlt := sz b hb
    refine ⟨⟨er_none ?_, (f2 b hb).2⟩, by rw [h3, Heap.size_push]; exact Nat.lt_succ_of_lt hlt⟩
    rw [upd_ne (by rw [← hD]; exact Nat.ne_of_lt hlt)]
    exact (f2 b hb).1
  have phi : PhiAt Φ s3.heap (er cs (upd H2 D (.lst []))) fp := fun F N σ' hp => ⟨cell3 F N σ' hp, fun y c e hb => by
    rcases hcl F N σ' hp y c e with ⟨x, z⟩ | z
    · exact (f2 c hb).2.2.2.2.1 x c z rfl
    · obtain ⟨v, k⟩ := hcs c z
      rw [(f2 c hb).1] at k; cases k⟩
  have st3 : tn 0 s3.heap := T.keep _ _ _ st2 fun b _ o e => by rw [h3]; exact Heap.get?_push_of_some _ e
  generalize hH3 : er cs (upd H2 D (.lst [])) = H3 at I3 w0 f3 phi
  have I4 := block_start I3 ok hN f3
  have pg := hg s3 H3 s3.heap.objs.size (cellsFrom (s3.heap.objs.size + 1) scope.names (cloFrom X.env.cells scope.names [])) fp
  have pt := ht Φ s3 H3 s3.heap.objs.size (cellsFrom (s3.heap.objs.size + 1) scope.names (cloFrom X.env.cells scope.names [])) fp phi
  have pe := he s3 H3 s3.heap.objs.size (cellsFrom (s3.heap.objs.size + 1) scope.names (cloFrom X.env.cells scope.names [])) fp
  have hRR : ∀ s' m H', Inv X pins σ H' s' → Q (.ref D) H' → s'.heap.Ns s3.heap.objs.size m → FpOk X pins H' s3.heap.objs.size → compPost (model X.prog X.w) X.A X.xe none (EP X pins σ Q) (.ref D) s3.heap.objs.size (.ok .next) s' := fun s' m H' I' q hn f => ⟨m, hn, fun h'' sb => by
    obtain ⟨f0, f1, f2, f3, f4, f5⟩ := f
    exact ⟨.ref D, H', I'.turned (t' := s'.toks) (fun b o hb e => (sb.2 b hb).trans e) f0 f1 f3 f4 f5, rfl, q⟩⟩
  show codeAny _ _ (.compStart (.ListComp elt [⟨tg, iter, ifs, 0⟩] scope pos) 0 (.ref it) (.ref D) (compEnvC scope (cellsFrom (s3.heap.objs.size + 1) scope.names (cloFrom X.env.cells scope.names [])) s3.heap.objs.size X.env)) (compPost (model X.prog X.w) X.A X.xe none _ (.ref D) s3.heap.objs.size) { s3 with heap := pushCells (s3.heap.push { cls := .type "dict", data := .dict #[] }) scope.names }
  have nfp : ∀ b ∈ fp, H3 b = none := fun b hb => (f3 b hb).1.1
  generalize hce : compEnvC scope (cellsFrom (s3.heap.objs.size + 1) scope.names (cloFrom X.env.cells scope.names [])) s3.heap.objs.size X.env = ce at I4 pg pt pe ⊢
  have cL : ce.locals = s3.heap.objs.size := by subst hce; rfl
  generalize hs4 : ({ s3 with heap := pushCells (s3.heap.push { cls := .type "dict", data := .dict #[] }) scope.names } : Shared) = s4 at I4 ⊢
  have st4 : tn 0 s4.heap := T.keep _ _ _ st3 fun b _ o e => by rw [← hs4]; exact pushCells_keeps _ _ _ _ (Heap.get?_push_of_some _ e)
  have stat : ∀ {σ' : L2.St} {H' : Hp} {s' : Shared}, Inv (X.blk s3 H3 scope ce fp) [] σ' H' s' → (∀ b ∈ fp, H' b = none) → ∀ b ∈ fp, FpOk (X.blk s3 H3 scope ce fp) [] H' b := fun {σ' H' s'} I' hn b hb =>
    ⟨hn b hb, (I'.ok.exf b hb).1, I'.ok.exfs b hb, .inl hb, fun x c e => (I'.ok.exf b hb).2 x c e, fun p hp => absurd (show p ∈ ([] : List (Addr × Obj)) ++ [] from hp) (by simp)⟩
  have loop : codeAny (model X.prog X.w) X.A (.compLoop (.ListComp elt [⟨tg, iter, ifs, 0⟩] scope pos) 0 (.ref it) (.ref D) ce) (compPost (model X.prog X.w) X.A X.xe none (EP X pins σ Q) (.ref D) s3.heap.objs.size) s4 := by
    refine compLoop_any (fun n s' => ∃ i H', Inv (X.blk s3 H3 scope ce fp) [] (wipe σ (own.map (·.2))) H' s' ∧ tn i s'.heap ∧ (∀ b ∈ fp, H' b = none) ∧ W i n H') ?_ m0 ⟨0, H3, I4, st4, nfp, w0⟩
    rintro n s5 ⟨i, H5, I5, st5, n5, w5⟩
    rcases turn i n H5 w5 with ⟨stop, qq⟩ | ⟨go, Nx, hNx, step⟩
    · have td := T.done (X.blk s3 H3 scope ce fp) rfl rfl rfl hc i [] s5 _ H5 (fun _ _ => False) I5 (stat I5 n5) st5 stop
      refine thnF td fun r s6 ⟨hr, I6⟩ => ?_
      subst hr
      have I7 : Inv X pins σ H5 s6 := I3.call' (ch := fp) I6.os I6.base I6.hok I6.bare fun b hb => ⟨(f3 b hb).1.2.2.2.1, (f3 b hb).1.2.1, (f3 b hb).1.2.2.2.2.1, (f3 b hb).1.2.2.2.2.2⟩
      have nC : H5 s3.heap.objs.size = none := by
        have z : H5 ce.locals = none := I6.free
        rw [cL] at z
        exact z
      obtain ⟨m, hn, _⟩ := I6.loc
      have hn : s6.heap.Ns ce.locals m := hn
      rw [cL] at hn
      exact hRR s6 m H5 I7 qq hn (I3.fpOk (Nat.le_refl _) nC)
    · have ti := T.item (X.blk s3 H3 scope ce fp) rfl rfl rfl hc i [] s5 _ H5 (fun _ _ => False) I5 (stat I5 n5) st5 go
      refine thnF ti fun r s6 ⟨u, hr, h6⟩ => ?_
      subst hr
      refine thnF h6 fun _ s7 ⟨x, H7, I7, r7, y7, st7, n7⟩ => ?_
      have I7' := I7.pinned (stat I7 n7) (T.obj _ _ st7)
      refine thnF (pg.run _ s7 _ H7 x u _ I7' r7 (step x H7 y7)) fun _ s8 ⟨σ8, H8, I8, hw8, q8⟩ => ?_
      refine thnF (pt.run _ s8 σ8 H8 _ I8 q8) fun b s9 ⟨H9, I9, q9⟩ => ?_
      have fin : ∀ {s' : Shared} {H' : Hp}, Inv (X.blk s3 H3 scope ce fp) ([] ++ pinsAt fp s7.heap) σ8 H' s' → Nx H' → ∃ m, m < n ∧ ∃ i H', Inv (X.blk s3 H3 scope ce fp) [] (wipe σ (own.map (·.2))) H' s' ∧ tn i s'.heap ∧ (∀ b ∈ fp, H' b = none) ∧ W i m H' := fun {s' H'} I' nx => by
        obtain ⟨m', hm, w'⟩ := hNx H' nx
        have pin' : ∀ b ∈ fp, ∀ o, s7.heap.get? b = some o → s'.heap.get? b = some o ∧ H' b = none := fun b hb o e =>
          let z := I'.pin (b, o) (List.mem_append_right _ (List.mem_append_right _ (mem_pinsAt hb e)))
          ⟨z.1, z.2.1⟩
        have hl : (wipe σ (own.map (·.2))).length = σ8.length := by rw [← hw8, wipe_length]
        refine ⟨m', hm, i + 1, H', (I'.unpinned (pins := [])).weak hl (fun j v e => ?_), T.keep _ _ _ st7 fun b hb o e => (pin' b hb o e).1, fun b hb => ?_, w'⟩
        · rw [← hw8] at e
          exact (wipe_some e).1
        · obtain ⟨o, e, _⟩ := T.obj _ _ st7 b hb
          exact (pin' b hb o e).2
      cases b with
      | false =>
        simp only [Bool.false_eq_true, if_false] at q9 ⊢
        exact fin I9 q9
      | true =>
        simp only [if_true] at q9 ⊢
        refine thnF (pe.run _ s9 σ8 H9 _ I9 q9) fun z s10 ⟨yv, H10, I10, r10, acc, hD10, hz10, nx⟩ => ?_
        exact app_ok (X := X.blk s3 H3 scope ce fp) I10 hD10 hz10 r10 fun s11 I11 => fin I11 nx
  exact codeAny_compStart_list loop (T.self X.A 0 _ _ _ st4 loop)
end
/-! ### a def that leaves its cells behind -/
section
variable {X : Cx}
structure PSk (X : Cx) (pre : List Stmt) (t : TS) : Prop where
  run : ∀ (pins : List (Addr × Obj)) (s : Shared) (σ : L2.St) (H : Hp) (D : Ends), Inv X pins σ H s → t D σ H → ∀ (rest : List Stmt) (Post : Flow → Shared → Prop), (∀ σ' H' s', Inv X pins σ' H' s' → D.nx σ' H' → wpAny (model X.prog X.w) X.A (execs rest X.env) Post X.xe s') →
    (∀ f s', f ≠ .next → SP X pins D f s' → Post f s') → wpAny (model X.prog X.w) X.A (execs (pre ++ rest) X.env) Post X.xe s
theorem psk_nil : PSk X [] tNext := ⟨fun pins s σ H D I h rest Post hn _ => hn σ H s I h⟩
theorem psk_cons {st : Stmt} {pre : List Stmt} {t u : TS} (h1 : PS X st t) (h2 : PSk X pre u) : PSk X (st :: pre) (tSeq t u) := by
  refine ⟨fun pins s σ H D I h rest Post hn ho => ?_⟩
  refine wpAny_execs_cons (thn (h1.run pins s σ H { D with nx := u D } I h) fun f s1 q => ?_)
  cases f with
  | next =>
    obtain ⟨σ', H', I', q⟩ := q
    exact h2.run pins s1 σ' H' D I' q rest Post hn ho
  | ret v => exact ho _ _ (fun z => by cases z) q
  | brk => exact ho _ _ (fun z => by cases z) q
  | cont => exact ho _ _ (fun z => by cases z) q
end
theorem mem_lookN {α : Type} : ∀ {l : List (Addr × α)} {b : Addr} {v : α}, l.lookup b = some v → (b, v) ∈ l
  | [], _, _, h => by cases h
  | (a, u) :: l, b, v, h => by
    rw [List.lookup_cons] at h
    cases e : b == a with
    | true =>
      rw [e] at h
      have : b = a := by simpa using e
      cases h
      rw [this]; exact List.mem_cons_self
    | false =>
      rw [e] at h
      exact List.mem_cons_of_mem _ (mem_lookN h)
/-- the cells of L are known from now on -/
def layC (L : List (Addr × V)) (H : Hp) : Hp := fun b => match L.lookup b with
  | some v => some (CellO b v)
  | none => H b
theorem layC_in {L : List (Addr × V)} {H : Hp} {b : Addr} {v : V} (e : L.lookup b = some v) : layC L H b = some (CellO b v) := by unfold layC; rw [e]
theorem layC_out {L : List (Addr × V)} {H : Hp} {b : Addr} (e : L.lookup b = none) : layC L H b = H b := by unfold layC; rw [e]
section
variable {X : Cx} {σ : L2.St} {H : Hp} {s : Shared}
/-- where the cells of these names stand -/
abbrev cellsL (X : Cx) (cs : List (Str × V)) : List (Addr × V) := cs.map fun q => ((X.env.cells.lookup q.1).getD 0, q.2)
def CsOk (X : Cx) (σ : L2.St) (cs : List (Str × V)) : Prop := ∀ q ∈ cs, X.env.scope.names.lookup q.1 = some .cell ∧ ∃ j : Nat, X.N[j]? = some q.1 ∧ σ[j]? = some (some q.2)
theorem cs_at (I : Inv X [] σ H s) {cs : List (Str × V)} (h : CsOk X σ cs) {b : Addr} {v : V} (e : (cellsL X cs).lookup b = some v) : ∃ y, X.env.cells.lookup y = some b ∧ H b = none ∧ ∃ u, L2.RelV v u ∧ s.heap.IsCell b (some u) := by
  obtain ⟨q, hq, e2⟩ := List.mem_map.mp (mem_lookN e)
  obtain ⟨k, j, h1, h2⟩ := h q hq
  obtain ⟨c, hc⟩ := I.ok.has q.1 (.inl k)
  have e3 : (X.env.cells.lookup q.1).getD 0 = b := congrArg Prod.fst e2
  have e4 : q.2 = v := congrArg Prod.snd e2
  rw [hc] at e3
  have e3 : c = b := e3
  subst e3 e4
  obtain ⟨m, hn, hl⟩ := I.loc
  obtain ⟨u, r, l⟩ := hl j q.1 q.2 h1 h2 (.inr (.inl k))
  refine ⟨q.1, hc, I.freeC _ _ hc, u, r, ?_⟩
  rcases l with ⟨z, _⟩ | ⟨_, a', ha', hcell⟩
  · have z' : X.env.scope.names.lookup q.1 = some .local := z
    rw [k] at z'; cases z'
  · rw [hc] at ha'
    cases ha'
    exact hcell
theorem inv_lay (I : Inv X [] σ H s) (hfn : ∀ x, X.fn x = true) {cs : List (Str × V)} (h : CsOk X σ cs) : Un X.fs X.ex X.H_0 (layC (cellsL X cs) H) X.s_0.heap s.heap ∧ HOk X.prog X.w (layC (cellsL X cs) H) s.heap := by
  have u := I.base
  have up : ∀ {b : Addr} {o : HO}, H b = some o → layC (cellsL X cs) H b = some o := fun {b o} e => by
    cases q : (cellsL X cs).lookup b with
    | none => rw [layC_out q]; exact e
    | some v =>
      obtain ⟨_, _, n, _⟩ := cs_at I h q
      rw [e] at n; cases n
  refine ⟨⟨u.keep, u.slot, fun b o e n hx => ?_, u.there, fun b xs e => up (u.tups b xs e), fun b o v e => up (u.frzs b o v e), fun b ps e => ?_⟩, fun a o e => ?_⟩
  · cases q : (cellsL X cs).lookup b with
    | none => rw [layC_out q]; exact u.free b o e n hx
    | some v =>
      obtain ⟨y, hy, _, _⟩ := cs_at I h q
      exact absurd (Nat.lt_of_lt_of_le (Heap.lt_size e) (I.ok.cab y b (hfn y) hy)) (Nat.lt_irrefl _)
  · obtain ⟨more, z⟩ := u.tbls b ps e
    exact ⟨more, up z⟩
  · cases q : (cellsL X cs).lookup a with
    | none =>
      rw [layC_out q] at e
      exact (I.hok a o e).stay (fun b u _ q => q) (fun b q => up q) fun b xs q => up q
    | some v =>
      obtain ⟨_, _, _, u, r, hc⟩ := cs_at I h q
      rw [layC_in q] at e
      cases e
      obtain ⟨ob, ho, hd⟩ := hc
      exact ⟨⟨u, r, ob, ho, hd⟩, ⟨ob, ho⟩, fun h1 h2 ⟨u, r, ob, a, b⟩ st => ⟨u, r, ob, st _ a, b⟩⟩
end
theorem fn_ofC {P : Program} {w : World} {K : PySem.W.Frag} {mg : Str → Option Value} {base : Heap} {CX : CXT} {k : Nat} {f : Addr} {name qual : Str} {params : Arguments} {body pre : List Stmt} {scope : Scope} {dV kV doc pm cdv ct oc : Value} {an od : Option Addr}
    {osl : Array (Option Value)} {N ps : List Str} {sp : Sp} {y : Str} {i : Nat} {py pr : Pos} (lk : K.lookup f = some ⟨oc, od, .func (PySem.W.fnOf name qual params body scope dV kV doc pm an cdv ct), osl⟩) (hcd : PySem.W.codeIn K cdv qual = true) (S : FnScope N ps scope)
    (hbd : body = pre ++ [.Return (some (.Name y py)) pr]) (hi : N[i]? = some y) (hv : Vis scope y) (hd : (y == ("__debug__" : Str)) = false) (hcd2 : (y == ("__classdict__" : Str)) = false)
    (len : ∀ vs H Q E, sp vs H Q E → vs.length = ps.length)
    (hbody : ∀ (A : Around) (outer : List Env) (s : Shared) (H : Hp) (vs : List V) (Q : VK) (E : XK), Room k (A.deeper (envOfC qual scope s.heap.objs.size f cdv)) → sp vs H Q E →
      ∃ t, PSk (cxOf CX P w K mg base N qual scope f cdv A outer s H E) pre t ∧
        t { nx := fun σ' H' => ∃ v, σ'[i]? = some (some v) ∧ ∃ cs, CsOk (cxOf CX P w K mg base N qual scope f cdv A outer s H E) σ' cs ∧ ((∀ c v, (cellsL (cxOf CX P w K mg base N qual scope f cdv A outer s H E) cs).lookup c = some v → H' c = none) → (∀ x y c, (cxOf CX P w K mg base N qual scope f cdv A outer s H E).env.cells.lookup x = some c → (cxOf CX P w K mg base N qual scope f cdv A outer s H E).env.cells.lookup y = some c → x = y) → Q v (layC (cellsL (cxOf CX P w K mg base N qual scope f cdv A outer s H E) cs) H')), rt := fun _ _ => False } (L2.start N vs) H) :
    FnOk P w K mg base CX (k + 1) f (PySem.W.fnOf name qual params body scope dV kV doc pm an cdv ct) ps sp := by
  refine ⟨len, fun A outer s H args us vs Q E hr e0 hb r hsp => ?_⟩
  have hl := len _ _ _ _ hsp
  have KX : K.In s.heap := e0.mod.kin.keeps fun b o e => (e0.bs b o e).1
  have lim : s.heap.NoLimit := e0.mod.nolimit.keeps fun b o e => (e0.bs b o e).1
  have hkind : ∀ y ∈ ps.zip us, scope.names.lookup y.1 = some .local ∨ (scope.names.lookup y.1 = some .cell ∧ ((cellsFrom (s.heap.objs.size + 1) scope.names []).lookup y.1).isSome = true) := fun ⟨n, v⟩ hy => by
    rcases S.par n (List.of_mem_zip hy).1 with q | q
    · exact .inl q
    · exact .inr ⟨q, PySem.W.cellsFrom_some _ _ _ (.inl q)⟩
  refine codeAny_call_function hr.depth (KX _ _ lk) rfl S.co S.gen rfl (PySem.W.codeRec_of KX hcd) (hb _ _ _ _ ?_)
  refine wpAny_newFunctionEnv_cells S.kind hkind fun env he s1 x => ?_
  subst he
  refine ⟨lim.keeps x.toInCall.keep, codeAny_func ?_⟩
  obtain ⟨t, ht, hq⟩ := hbody A outer s H vs Q E (hr.deeper _) hsp
  have I : Inv (cxOf CX P w K mg base N qual scope f cdv A outer s H E) [] (L2.start N vs) H s1 := inv_start S hr.hd e0 hl r x
  rw [hbd]
  refine wpAny_mono (ht.run [] s1 (L2.start N vs) H _ I hq [.Return (some (.Name y py)) pr] (fun fl s' => ∃ u, fl = .ret u ∧ CE outer P w H s Q u s') (fun σ' H' s' J hn => ?_) fun fl s' hne hs => ?_) (fun fl s' hs => ?_) fun e s' hs => hs
  · obtain ⟨v, hv1, cs, hcs, hq⟩ := hn
    refine wpAny_execs_cons (wpAny_Return_some (thn ((pe_var (X := cxOf CX P w K mg base N qual scope f cdv A outer s H E) (pos := py) (i := i) hi hv hd hcd2).run [] s' σ' H' (fun v' H1 => v' = v ∧ H1 = H') J ⟨v, hv1, rfl, rfl⟩) fun u s2 ⟨v', H2, J2, rv, e1, e2⟩ => ?_))
    subst e1 e2
    obtain ⟨un, hok⟩ := inv_lay J2 (fun _ => rfl) hcs
    exact ⟨u, rfl, v', _, J2.os, J2.bare, un, hok, rv, hq (fun c v e => (cs_at J2 hcs e).elim fun _ z => z.2.1) J2.ok.inj⟩
  · cases fl with
    | ret u => obtain ⟨_, _, _, _, _, z⟩ := hs; exact z.elim
    | next => exact absurd rfl hne
    | brk => obtain ⟨_, _, _, z⟩ := hs; exact z.elim
    | cont => obtain ⟨_, _, _, z⟩ := hs; exact z.elim
  · obtain ⟨u, rfl, ce⟩ := hs
    exact ce
end LamL
end
section
/-! SwT_k01: what is told by a work that may be refused, BadWood too (k01). -/
namespace Sk
open PySem PySem.Spec PyProof.Rows L2 SW
inductive E6 | wood | hand | place | call | slot | room
def en6 : E6 → Str
  | .wood => "BadWood"
  | .hand => "NoHand"
  | .place => "NoPlace"
  | .call => "NoCall"
  | .slot => "NoSlot"
  | .room => "NoRoom"
def e6 : Er → E6
  | .hand => .hand
  | .place => .place
  | .call => .call
  | .slot => .slot
  | .room => .room
theorem en6_of (e : Er) : en6 (e6 e) = ern e := by cases e <;> rfl
theorem en6_in (e : E6) : en6 e ∈ exN := by cases e <;> decide +kernel
def erJ6 : E6 → Nat
  | .wood => 0
  | .hand => 1
  | .place => 2
  | .call => 3
  | .slot => 4
  | .room => 5
def TToldX (K : PySem.W.Frag) : (XK → Hp → VK → Prop) → Hp → VK → Prop := fun tl H Q =>
  tl (fun cls d H' => ∃ er : E6, en6 er ∈ exN ∧ cls = eC K (en6 er) ∧ d = none ∧ ∀ H'', Same H' H'' → Q (.str (en6 er)) H'') H Q
section
variable {K : PySem.W.Frag} {mg : Str → Option Value}
theorem tell_exmX (T : Txt K mg) {er : E6} (h : en6 er ∈ exN) : PySem.W.exmOne K (eC K (en6 er)) (eC K "WoodError") = some true := by
  cases er with
  | wood => exact T.xm_BadWood
  | hand => exact T.xm_NoHand
  | place => exact T.xm_NoPlace
  | call => exact T.xm_NoCall
  | slot => exact T.xm_NoSlot
  | room => exact T.xm_NoRoom
def ts_toldX (K : PySem.W.Frag) : Addr → Value → Option Addr → TS := fun a cls d D σ H => ∃ (er : E6) (σ' : L2.St), en6 er ∈ exN ∧ cls = eC K (en6 er) ∧ d = none ∧ σ = σ'.set 1 (some (.ref a)) ∧ ∀ H', Same H H' → D.rt (.str (en6 er)) H'
theorem told_givesX (T : Txt K mg) {X : Cx} (hK : X.K = K) (hm : X.mg = mg) {q : Str} {g : Addr} {cdg : Value} :
    LamX.GivesTo X ["_law_work", "e", "_law_kinds", "_law_words"] "_law_told" (defScope s_l_told) g cdg (defBody s_l_told) "_law_work" q (TToldX K) := by
  subst hK hm
  intro f c' s H Q tl act hc h
  let Z := (cxOf C8.CX0 X.prog X.w X.K X.mg X.base ["_law_work", "e", "_law_kinds", "_law_words"] "_law_told" (defScope s_l_told) g cdg X.A X.stack s H C8.E0).nox
  refine ⟨_, pss_one (ps_try_as (X := Z) (i := 1) (c := eC X.K "WoodError")
      (tb := fun W D σ H => ∃ Ech : XK, (∀ cls d σ' H', Ech cls d H' → W cls d σ' H') ∧ σ[0]? = some (some (.ref f)) ∧ H c' = some (LamX.CodeO c' q) ∧ tl Ech H D.rt) (ts := ts_toldX X.K) (Wout := fun _ _ _ _ => False)
      rfl rfl sc_l_told.nd rfl rfl ⟨rfl, by decide, .inl T.g_WoodError⟩ LamX.takes0 (fun W pn xe tk _ => ?_) (fun a oe cls d pn hz hf => ?_)), ?_⟩
  · refine ⟨fun pins s' σ H' D I h' => ?_⟩
    obtain ⟨Ech, hW, h1, h2, h3⟩ := h'
    exact PSs.run (pss_one (ps_ret (act W pn xe Ech _ _ tk hW))) pins s' σ H' D I ⟨h1, h2, h3⟩
  · refine pss_by fun pins s' σ H' D I h' => ?_
    obtain ⟨er, σ', hx, rfl, rfl, rfl, kk⟩ := h'
    have hl : (σ'.set 1 (some (V.ref a))).length = 4 := I.len
    have he : (σ'.set 1 (some (V.ref a)))[1]? = some (some (V.ref a)) := by
      rw [List.length_set] at hl
      rw [List.getElem?_set_self (by omega)]
    generalize hσ : σ'.set 1 (some (V.ref a)) = σ at he hl I
    obtain ⟨x0, x1, x2, x3, rfl⟩ : ∃ x0 x1 x2 x3, σ = [x0, x1, x2, x3] := by
      match σ, hl with
      | [x0, x1, x2, x3], _ => exact ⟨x0, x1, x2, x3, rfl⟩
    have hx1 : x1 = some (V.ref a) := by simpa using he
    subst hx1
    have C := T.exC _ hx
    refine ⟨_, (pss_cons (ps_set (i := 2) sc_l_told.nd rfl (Or.inl rfl) (pe_lst (pa_cons (pe_callB (call_isEK C hz hf) rfl T.n_isinstance (by decide +kernel) (pa_cons (pv 1) (pa_cons (pe_glob (v := .ref _) rfl T.g_BadWood rfl) pa_nil))) (pa_cons (pe_callB (call_isEK C hz hf) rfl T.n_isinstance (by decide +kernel) (pa_cons (pv 1) (pa_cons (pe_glob (v := .ref _) rfl T.g_NoHand rfl) pa_nil))) (pa_cons (pe_callB (call_isEK C hz hf) rfl T.n_isinstance (by decide +kernel) (pa_cons (pv 1) (pa_cons (pe_glob (v := .ref _) rfl T.g_NoPlace rfl) pa_nil))) (pa_cons (pe_callB (call_isEK C hz hf) rfl T.n_isinstance (by decide +kernel) (pa_cons (pv 1) (pa_cons (pe_glob (v := .ref _) rfl T.g_NoCall rfl) pa_nil))) pa_nil)))))) (pss_cons (ps_set (i := 2) sc_l_told.nd rfl (Or.inl rfl) (pe_op op_cat (pv 2) (pe_lst (pa_cons (pe_callB (call_isEK C hz hf) rfl T.n_isinstance (by decide +kernel) (pa_cons (pv 1) (pa_cons (pe_glob (v := .ref _) rfl T.g_NoSlot rfl) pa_nil))) (pa_cons (pe_callB (call_isEK C hz hf) rfl T.n_isinstance (by decide +kernel) (pa_cons (pv 1) (pa_cons (pe_glob (v := .ref _) rfl T.g_NoRoom rfl) pa_nil))) pa_nil))))) (pss_cons (ps_set (i := 3) sc_l_told.nd rfl (Or.inl rfl) (pe_lst (pa_cons pe_str (pa_cons pe_str (pa_cons pe_str (pa_cons pe_str (pa_cons pe_str (pa_cons pe_str pa_nil)))))))) (pss_one (ps_ret (pe_ifExp (PW.pt (pw_and (pt_cmpR op_eq (pe_bm PySem.F.plainAttrs_list PySem.F.slot_list_count PySem.F.type_list_count (mt_countB (K := X.K) rfl) (pv 2) (pa_cons pe_bl pa_nil)) pe_int (nomark _)) (pw_and1 (pt_val (pe_callB (call_isEK C hz hf) rfl T.n_isinstance (by decide +kernel) (pa_cons (pv 1) (pa_cons (pe_bltn (v := .ty "ValueError") rfl T.n_ValueError (by decide +kernel) rfl) pa_nil))))))) (pe_ix (ix_listK X.K rfl) (pv 3) (pe_bm PySem.F.plainAttrs_list PySem.F.slot_list_index PySem.F.type_list_index mt_index (pv 2) (pa_cons pe_bl pa_nil)) (fun _ _ => rfl)) pe_str)))))), ?_⟩
    have m0 : ("BadWood" : Str) ∈ exN := by decide +kernel
    have m1 : ("NoHand" : Str) ∈ exN := by decide +kernel
    have m2 : ("NoPlace" : Str) ∈ exN := by decide +kernel
    have m3 : ("NoCall" : Str) ∈ exN := by decide +kernel
    have m4 : ("NoSlot" : Str) ∈ exN := by decide +kernel
    have m5 : ("NoRoom" : Str) ∈ exN := by decide +kernel
    refine ⟨_, rfl, _, _, _, rfl, fun u h => h, T.exX _ hx _ m0, _, rfl, _, _, _, rfl, fun u h => h, T.exX _ hx _ m1, _, rfl, _, _, _, rfl, fun u h => h, T.exX _ hx _ m2, _, rfl, _, _, _, rfl, fun u h => h, T.exX _ hx _ m3, by show 4 ≤ sizeLine; exact sz (by omega), fun l1 n1 => ?_⟩
    refine ⟨_, rfl, _, rfl, _, _, _, rfl, fun u h => h, T.exX _ hx _ m4, _, rfl, _, _, _, rfl, fun u h => h, T.exX _ hx _ m5, by show 2 ≤ sizeLine; exact sz (by omega), fun l2 n2 => ?_⟩
    have n12 : l1 ≠ l2 := ne_of_none upd_same n2
    refine ⟨l1, l2, _, _, rfl, rfl, (upd_ne n12).trans upd_same, upd_same, by show 4 + 2 ≤ sizeLine; exact sz (by omega), fun l3 n3 => ?_⟩
    refine ⟨by show 6 ≤ sizeLine; exact sz (by omega), fun l4 n4 => ?_⟩
    have n34 : l3 ≠ l4 := ne_of_none upd_same n4
    have S4 := (((same_new n1 (.lst [V.bl (decide (en6 er = "BadWood")), V.bl (decide (en6 er = "NoHand")), V.bl (decide (en6 er = "NoPlace")), V.bl (decide (en6 er = "NoCall"))])).trans (same_new n2 (.lst [V.bl (decide (en6 er = "NoSlot")), V.bl (decide (en6 er = "NoRoom"))]))).trans (same_new n3 (.lst ([V.bl (decide (en6 er = "BadWood")), V.bl (decide (en6 er = "NoHand")), V.bl (decide (en6 er = "NoPlace")), V.bl (decide (en6 er = "NoCall"))] ++ [V.bl (decide (en6 er = "NoSlot")), V.bl (decide (en6 er = "NoRoom"))])))).trans (same_new n4 (.lst [V.str "BadWood", V.str "NoHand", V.str "NoPlace", V.str "NoCall", V.str "NoSlot", V.str "NoRoom"]))
    have hk3 : ∀ {ys : List V} {HH : Hp}, HH l3 = some (.lst ys) → HH l3 = some (.lst ys) := fun h => h
    refine ⟨_, rfl, .inl ⟨rfl, _, SqL.of ((upd_ne n34).trans upd_same)⟩, l3, [decide (en6 er = "BadWood"), decide (en6 er = "NoHand"), decide (en6 er = "NoPlace"), decide (en6 er = "NoCall"), decide (en6 er = "NoSlot"), decide (en6 er = "NoRoom")], true, rfl, rfl, SqL.of ((upd_ne n34).trans upd_same), rfl, _, rfl, ifT (by cases er <;> decide +kernel) ?_⟩
    refine ⟨_, rfl, _, _, _, rfl, fun u h => h, T.exV _ hx, _, rfl, iteT ?_⟩
    refine ⟨_, rfl, _, rfl, .inl ⟨rfl, _, SqL.of ((upd_ne n34).trans upd_same)⟩, l3, _, V.bl true, erJ6 er, V.bl true, rfl, rfl, SqL.of ((upd_ne n34).trans upd_same), rfl, rfl, by cases er <;> decide +kernel, rfl, ahead (by cases er <;> decide +kernel), ?_⟩
    exact ⟨l4, _, _, V.str (en6 er), rfl, rfl, SqL.of upd_same, atI_nat (by cases er <;> rfl), kk _ S4⟩
  · exact ⟨_, fun cls d σ' H' ⟨er, h1, h2, h3, h4⟩ => ⟨true, by rw [h2]; exact tell_exmX T h1, fun _ a _ => ⟨er, σ', h1, h2, h3, rfl, h4⟩, fun hb => by cases hb⟩, rfl, hc, h⟩
end
end Sk
end
section
/-! SwC: lists of kept lambdas, each of which refuses (k01). -/
namespace Sk
open PySem PySem.Spec PyProof.Rows L2 SW LamL
theorem lnO_lst {f : Addr} {F : LF} {xs : List V} : LnO f F ≠ HO.lst xs := fun z => by unfold LnO at z; cases z
theorem codeO_lst {c : Addr} {q : Str} {xs : List V} : LamX.CodeO c q ≠ HO.lst xs := fun z => by unfold LamX.CodeO at z; cases z
theorem tupO_lst {c : Addr} {x : V} {xs : List V} : TupO c x ≠ HO.lst xs := fun z => by unfold TupO at z; cases z
structure Fns (H : Hp) (L : Addr) (fs : List (Addr × LF)) : Prop where
  at_ : H L = some (.lst (fs.map fun q => V.ref q.1))
  all : ∀ q ∈ fs, H q.1 = some (LnO q.1 q.2) ∧ H q.2.c = some (LamX.CodeO q.2.c q.2.qual) ∧ DfOk q.2 H
theorem dfOk_up {F : LF} {H H' : Hp} (h : DfOk F H) (u : ∀ b x, H b = some (TupO b x) → H' b = some (TupO b x)) : DfOk F H' := by
  rcases h with z | ⟨dt, x, z, e⟩
  · exact .inl z
  · exact .inr ⟨dt, x, z, u _ _ e⟩
theorem Fns.ext {H H' : Hp} {L : Addr} {fs : List (Addr × LF)} (h : Fns H L fs) (e : LamX.ExtN H H') : Fns H' L fs :=
  ⟨e _ _ h.at_ (fun _ z => by cases z), fun q hq => ⟨e _ _ (h.all q hq).1 lnO_ne, e _ _ (h.all q hq).2.1 LamX.codeO_ne, dfOk_up (h.all q hq).2.2 fun b x z => e _ _ z tupO_ne⟩⟩
theorem Fns.same {H H' : Hp} {L : Addr} {fs : List (Addr × LF)} (h : Fns H L fs) (e : Same H H') : Fns H' L fs := h.ext (LamX.ExtN.of e)
theorem Fns.one {H : Hp} {L : Addr} {q : Addr × LF} (n : H L = none) (h1 : H q.1 = some (LnO q.1 q.2)) (h2 : H q.2.c = some (LamX.CodeO q.2.c q.2.qual)) (h3 : DfOk q.2 H) : Fns (upd H L (.lst [V.ref q.1])) L [q] :=
  ⟨upd_same, fun p hp => by
    rw [List.mem_singleton.mp hp]
    exact ⟨(upd_ne (ne_of_none h1 n)).trans h1, (upd_ne (ne_of_none h2 n)).trans h2, dfOk_up h3 fun b x z => (upd_ne (ne_of_none z n)).trans z⟩⟩
theorem Fns.add {H : Hp} {L : Addr} {fs : List (Addr × LF)} {q : Addr × LF} (h : Fns H L fs) (h1 : H q.1 = some (LnO q.1 q.2)) (h2 : H q.2.c = some (LamX.CodeO q.2.c q.2.qual)) (h3 : DfOk q.2 H) : Fns (upd H L (.lst ((fs.map fun q => V.ref q.1) ++ [V.ref q.1]))) L (fs ++ [q]) := by
  have ne : ∀ {b : Addr} {o : HO}, H b = some o → (∀ xs, o ≠ HO.lst xs) → b ≠ L := fun {b o} e n z => by
    rw [z, h.at_] at e
    exact n _ (Option.some.inj e).symm
  have up : ∀ {b : Addr} {o : HO}, H b = some o → (∀ xs, o ≠ HO.lst xs) → upd H L (.lst ((fs.map fun q => V.ref q.1) ++ [V.ref q.1])) b = some o := fun e n => (upd_ne (ne e n)).trans e
  refine ⟨by rw [upd_same, List.map_append]; rfl, fun p hp => ?_⟩
  have k : H p.1 = some (LnO p.1 p.2) ∧ H p.2.c = some (LamX.CodeO p.2.c p.2.qual) ∧ DfOk p.2 H := by
    rcases List.mem_append.mp hp with z | z
    · exact h.all p z
    · rw [List.mem_singleton.mp z]; exact ⟨h1, h2, h3⟩
  exact ⟨up k.1 fun _ => lnO_lst, up k.2.1 fun _ => codeO_lst, dfOk_up k.2.2 fun b x z => up z fun _ => tupO_lst⟩
/-- the lambda refuses by that word wherever I holds, and leaves what is there -/
def Refs (P : Program) (w : World) (K : PySem.W.Frag) (mg : Str → Option Value) (base : Heap) (k : Nat) (en : E6) (I : Hp → Prop) (N : List Str) (σ : L2.St) (q : Addr × LF) : Prop :=
  ∃ sp, LOk P w K mg base k q.1 q.2 N σ sp ∧ ∀ (H : Hp) (E : XK) (Q : VK), I H → (∀ H', Same H H' → E (eC K (en6 en)) none H') → sp E H Q
theorem er_upd {cs : List Addr} {H : Hp} {D : Addr} {o : HO} (n : D ∉ cs) : er cs (upd H D o) = upd (er cs H) D o := by
  funext b
  unfold er upd
  by_cases z : b = D
  · subst z; rw [if_neg n, if_pos rfl, if_pos rfl]
  · by_cases y : b ∈ cs
    · simp [y, z]
    · simp [y, z]
theorem wipeC {σ : L2.St} {i : Nat} {x : Option V} : wipe ((wipe σ [i]).set i x) [i] = wipe σ [i] := by
  show ((σ.set i none).set i x).set i none = σ.set i none
  rw [List.set_set, List.set_set]
/-- [w for w in L if told(w) != word] is empty -/
theorem kept_none {X : Cx} {σ : L2.St} {H1 : Hp} {L D : Addr} {fs : List (Addr × LF)} {i k : Nat} {en : E6} {I : Hp → Prop} {N0 : List Str} {σ0 : L2.St} {cs : List Addr} {te : TE} {Q : VK} (Fe : Fns (er cs H1) L fs) (nD : H1 D = none) (hcs : CellsIn cs H1) (hi : i < σ.length)
    (hcell : ∀ pins s, Inv X pins σ (upd H1 D (.lst [])) s → ∀ q ∈ fs, CellsS q.2.cl N0 σ0 s.heap (er cs (upd H1 D (.lst [])))) (hcl : ∀ q ∈ fs, ∀ y c, q.2.cl.lookup y = some c → (∃ x, X.env.cells.lookup x = some c) ∨ c ∈ cs)
    (hR : ∀ q ∈ fs, Refs X.prog X.w X.K X.mg X.base k en I N0 σ0 q) (hI : ∀ H', Same (er cs H1) H' → I H') (hQ : ∀ H', Same (er cs H1) H' → H' D = some (.lst []) → Q (.ref D) H') :
    ∃ (cs : List Addr) (Φ : Phi), CellsIn cs H1 ∧
      (∀ pins s, Inv X pins σ (upd H1 D (.lst [])) s → ∀ F N σ', Φ F N σ' → CellsS F.cl N σ' s.heap (er cs (upd H1 D (.lst [])))) ∧ (∀ F N σ', Φ F N σ' → ∀ y c, F.cl.lookup y = some c → (∃ x, X.env.cells.lookup x = some c) ∨ c ∈ cs) ∧
      ∃ W : Nat → Nat → Hp → Prop, (∃ m, W 0 m (er cs (upd H1 D (.lst [])))) ∧ ∀ i' m H, W i' m H →
      ((Itl X.K L).stop i' H ∧ Q (.ref D) H) ∨ ((Itl X.K L).go i' H ∧ ∃ Nx : Hp → Prop, (∀ H', Nx H' → ∃ m', m' < m ∧ W (i' + 1) m' H') ∧ ∀ x H', (Itl X.K L).yld i' H x H' → gName i x (wipe σ [i]) H' fun σ2 H2 => wipe σ2 [i] = wipe σ [i] ∧ tTest (tOp rNe (tToldW X.prog X.w X.K X.mg X.base k i (TToldX X.K) Φ) (tC (.str (en6 en)))) σ2 H2 fun b H3 =>
        if b = true then te σ2 H3 fun y H4 => ∃ acc, H4 D = some (.lst acc) ∧ acc.length < sizeLine ∧ Nx (upd H4 D (.lst (acc ++ [y]))) else Nx H3) := by
  have nDc : D ∉ cs := fun h => by
    obtain ⟨x, z⟩ := hcs D h
    rw [nD] at z; cases z
  have nDe : er cs H1 D = none := er_none nD
  have s0 : Same (er cs H1) (upd (er cs H1) D (.lst [])) := same_new nDe _
  have eu : er cs (upd H1 D (.lst [])) = upd (er cs H1) D (.lst []) := er_upd nDc
  have F3 := Fe.same s0
  have nLD : L ≠ D := ne_of_none Fe.at_ nDe
  refine ⟨cs, fun F N σ' => (∃ f, (f, F) ∈ fs) ∧ N = N0 ∧ σ' = σ0, hcs, fun pins s J F N σ' hp => ?_, fun F N σ' hp y c e => ?_, ?_⟩
  · obtain ⟨⟨f, hf⟩, rfl, rfl⟩ := hp
    exact hcell pins s J _ hf
  · obtain ⟨⟨f, hf⟩, rfl, rfl⟩ := hp
    exact hcl _ hf y c e
  rw [eu]
  have he0 : upd (er cs H1) D (.lst []) D = some (.lst []) := upd_same
  generalize upd (er cs H1) D (.lst []) = H3 at s0 F3 he0
  refine ⟨fun j m H => m = fs.length - j ∧ j ≤ fs.length ∧ Same H3 H, ⟨fs.length, by simp, Nat.zero_le _, Same.refl _⟩, ?_⟩
  rintro j m H ⟨rfl, hj, e⟩
  have F4 := F3.same e
  have hL : SqL X.K H L (fs.map fun q => V.ref q.1) := SqL.of F4.at_
  by_cases hlt : j < fs.length
  · refine .inr ⟨⟨_, V.ref fs[j].1, hL, by rw [List.getElem?_map, List.getElem?_eq_getElem hlt]; rfl⟩, fun H' => Same H3 H', fun H' p' => ⟨fs.length - (j + 1), by omega, rfl, hlt, p'⟩, fun x H' y => ?_⟩
    obtain ⟨rfl, y⟩ := y
    have hx := y _ hL
    rw [List.getElem?_map, List.getElem?_eq_getElem hlt] at hx
    have hx : V.ref fs[j].1 = x := Option.some.inj hx
    subst hx
    have hm : fs[j] ∈ fs := List.getElem_mem hlt
    obtain ⟨h1, h2, h3⟩ := F4.all _ hm
    obtain ⟨sp, lo, hsp⟩ := hR _ hm
    refine gName_to ?_
    refine ⟨wipeC, fs[j].1, fs[j].2, N0, σ0, sp, ?_, ⟨⟨fs[j].1, hm⟩, rfl, rfl⟩, h1, h2, h3, lo, h1, h3, ?_⟩
    · rw [List.getElem?_set_self (by rw [wipe_length]; exact hi)]
    · refine hsp H' _ _ (hI H' (s0.trans e)) fun H5 e5 => ⟨en, en6_in en, rfl, rfl, fun H6 e6 => ?_⟩
      refine ⟨rfl, _, rfl, ?_⟩
      exact ifF (by simp) ((e.trans e5).trans e6)
  · exact .inl ⟨⟨_, hL, by rw [List.length_map]; omega⟩, hQ H (s0.trans e) (e _ _ he0)⟩
end Sk
end
section
/-! SwC1: counts that can't be (k01). -/
namespace Sk
open PySem PySem.Spec PyProof.Rows L2 SW LamL
/-- the lambdas that X made -/
def Made (X : Cx) (q : Addr × LF) : Prop := ∃ (params : Arguments) (body : Expr) (scope : Scope) (c' : Addr) (df : Value), q.2 = LF.of X params body scope c' df ∧ ∀ y ∈ scope.names, y.2 = .free → X.env.scope.names.lookup y.1 = some .cell
theorem er_nil (H : Hp) : er [] H = H := by funext b; unfold er; rw [if_neg (by simp)]
theorem kept_mine {X : Cx} {σ : L2.St} {H1 : Hp} {L D : Addr} {fs : List (Addr × LF)} {i k : Nat} {en : E6} {I : Hp → Prop} {te : TE} {Q : VK} (hX : ∀ x, X.env.scope.names.lookup x = some .cell → ∃ c, X.env.cells.lookup x = some c) (Fe : Fns H1 L fs) (nD : H1 D = none) (hi : i < σ.length) (hM : ∀ q ∈ fs, Made X q)
    (hR : ∀ q ∈ fs, Refs X.prog X.w X.K X.mg X.base k en I X.N σ q) (hI : ∀ H', Same H1 H' → I H') (hQ : ∀ H', Same H1 H' → H' D = some (.lst []) → Q (.ref D) H') :
    ∃ (cs : List Addr) (Φ : Phi), CellsIn cs H1 ∧
      (∀ pins s, Inv X pins σ (upd H1 D (.lst [])) s → ∀ F N σ', Φ F N σ' → CellsS F.cl N σ' s.heap (er cs (upd H1 D (.lst [])))) ∧ (∀ F N σ', Φ F N σ' → ∀ y c, F.cl.lookup y = some c → (∃ x, X.env.cells.lookup x = some c) ∨ c ∈ cs) ∧
      ∃ W : Nat → Nat → Hp → Prop, (∃ m, W 0 m (er cs (upd H1 D (.lst [])))) ∧ ∀ i' m H, W i' m H →
      ((Itl X.K L).stop i' H ∧ Q (.ref D) H) ∨ ((Itl X.K L).go i' H ∧ ∃ Nx : Hp → Prop, (∀ H', Nx H' → ∃ m', m' < m ∧ W (i' + 1) m' H') ∧ ∀ x H', (Itl X.K L).yld i' H x H' → gName i x (wipe σ [i]) H' fun σ2 H2 => wipe σ2 [i] = wipe σ [i] ∧ tTest (tOp rNe (tToldW X.prog X.w X.K X.mg X.base k i (TToldX X.K) Φ) (tC (.str (en6 en)))) σ2 H2 fun b H3 =>
        if b = true then te σ2 H3 fun y H4 => ∃ acc, H4 D = some (.lst acc) ∧ acc.length < sizeLine ∧ Nx (upd H4 D (.lst (acc ++ [y]))) else Nx H3) := by
  refine kept_none (cs := []) (N0 := X.N) (σ0 := σ) (by rw [er_nil]; exact Fe) nD (fun c hc => absurd hc (by simp)) hi (fun pins s J q hq => ?_) (fun q hq y c e => .inl ?_) hR (fun H' e => hI H' (by rw [er_nil] at e; exact e)) (fun H' e => hQ H' (by rw [er_nil] at e; exact e))
  · rw [er_nil]
    obtain ⟨params, body, scope, c', df, e, hf⟩ := hM q hq
    rw [e]
    exact cells_lam J fun y hy z => .inl (hf y hy z)
  · obtain ⟨params, body, scope, c', df, e2, hf⟩ := hM q hq
    rw [e2] at e
    exact ⟨y, NdefX.clo_cm (fun y hy z => hX _ (hf y hy z)) e⟩
theorem kept_mineK {X : Cx} {P : Program} {w : World} {K : PySem.W.Frag} {mg : Str → Option Value} {base : Heap} (p1 : X.prog = P) (p2 : X.w = w) (p3 : X.K = K) (p4 : X.mg = mg) (p5 : X.base = base) {vs : List Nat} {wd : Str} {i : Nat} {en : E6} (p6 : [i] = vs) (p7 : en6 en = wd) {σ : L2.St} {H1 : Hp} {L D : Addr} {fs : List (Addr × LF)} {k : Nat} {I : Hp → Prop} {te : TE} {Q : VK} (hX : ∀ x, X.env.scope.names.lookup x = some .cell → ∃ c, X.env.cells.lookup x = some c) (Fe : Fns H1 L fs) (nD : H1 D = none) (hi : i < σ.length) (hM : ∀ q ∈ fs, Made X q)
    (hR : ∀ q ∈ fs, Refs P w K mg base k en I X.N σ q) (hI : ∀ H', Same H1 H' → I H') (hQ : ∀ H', Same H1 H' → H' D = some (.lst []) → Q (.ref D) H') :
    ∃ (cs : List Addr) (Φ : Phi), CellsIn cs H1 ∧
      (∀ pins s, Inv X pins σ (upd H1 D (.lst [])) s → ∀ F N σ', Φ F N σ' → CellsS F.cl N σ' s.heap (er cs (upd H1 D (.lst [])))) ∧ (∀ F N σ', Φ F N σ' → ∀ y c, F.cl.lookup y = some c → (∃ x, X.env.cells.lookup x = some c) ∨ c ∈ cs) ∧
      ∃ W : Nat → Nat → Hp → Prop, (∃ m, W 0 m (er cs (upd H1 D (.lst [])))) ∧ ∀ i' m H, W i' m H →
      ((Itl K L).stop i' H ∧ Q (.ref D) H) ∨ ((Itl K L).go i' H ∧ ∃ Nx : Hp → Prop, (∀ H', Nx H' → ∃ m', m' < m ∧ W (i' + 1) m' H') ∧ ∀ x H', (Itl K L).yld i' H x H' → gName i x (wipe σ vs) H' fun σ2 H2 => wipe σ2 vs = wipe σ vs ∧ tTest (tOp rNe (tToldW P w K mg base k i (TToldX K) Φ) (tC (.str wd))) σ2 H2 fun b H3 =>
        if b = true then te σ2 H3 fun y H4 => ∃ acc, H4 D = some (.lst acc) ∧ acc.length < sizeLine ∧ Nx (upd H4 D (.lst (acc ++ [y]))) else Nx H3) := by
  subst p1 p2 p3 p4 p5 p6 p7
  exact kept_mine hX Fe nD hi hM hR hI hQ
/-- its names -/
theorem lsc_of {X : Cx} {N : List Str} {params : Arguments} {body : Expr} {scope : Scope} {c' : Addr} {df : Value} (L : LamX.LamS X.env.scope scope) : LSc N [] (LF.of X params body scope c' df) :=
  ⟨L.kind, L.co, L.gen, fun y hy => ⟨(L.own y hy).2, fun z => absurd z (L.own y hy).1⟩, fun x hx => absurd hx (by simp), fun x hx => absurd hx (by simp), fun y hy e => by
    obtain ⟨n, k⟩ := y
    have e : k = .free := e
    subst e
    exact mem_lookup (cloFrom_has hy)⟩
theorem lsc_ofD {X : Cx} {N : List Str} {x : Str} {params : Arguments} {body : Expr} {scope : Scope} {c' : Addr} {df : Value} (L : LamD.LamS1 X.env.scope scope x) (hx : x ∉ N) : LSc N [x] (LF.of X params body scope c' df) :=
  ⟨L.kind, L.co, L.gen, fun y hy => ⟨(L.own y hy).1, fun z => by rw [(L.own y hy).2 z]; exact List.mem_singleton.mpr rfl⟩, fun y hy => by rw [List.mem_singleton.mp hy]; exact L.par, fun y hy => by rw [List.mem_singleton.mp hy]; exact hx, fun y hy e => by
    obtain ⟨n, k⟩ := y
    have e : k = .free := e
    subst e
    exact mem_lookup (cloFrom_has hy)⟩
def spLeastX (K : PySem.W.Frag) : Sp := fun vs H _ E => ∃ (hands : Int) (b : Addr), vs = [.int hands, .ref b] ∧ ¬ (1 ≤ hands ∧ hands ≤ 6) ∧ ∀ H', Same H H' → E (eC K "BadWood") none H'
section
variable {P : Program} {w : World} {K : PySem.W.Frag} {mg : Str → Option Value} {base : Heap}
theorem ok_least_rooms (T : Txt K mg) (TC : TxtB K w) : FnOk P w K mg base (L2.CX P w) 7 (aG K "least_rooms") (fdOf K (aG K "least_rooms")) ["hands", "book"] (spLeastX K) := by
  refine T.F_least_rooms.ok (CX := L2.CX P w) sc_least_rooms (fun vs H Q E h => ?_) (fun cdv A outer s H vs Q E hr h => ?_)
  · obtain ⟨_, _, rfl, _⟩ := h; rfl
  · obtain ⟨hands, b, rfl, hn, k⟩ := h
    refine ⟨_, (pss_cons (ps_set (i := 2) sc_least_rooms.nd rfl (Or.inl rfl) (pe_make T.mk_Wood (ok_Wood_init T) (hr.mono (by decide)) rfl T.g_Wood T.b_Wood_init .nil (passes_call (takes_of rfl rfl rfl rfl) (fun _ _ _ _ h => h)) (pa_cons (pv 0) (pa_cons (pe_cst T.i_MOST_ROOMS rfl) pa_nil)))) (pss_cons (ps_set (i := 3) sc_least_rooms.nd rfl (Or.inl rfl) pe_int) (pss_cons (ps_for (passes_of rfl) rfl (pi_listK K rfl (pv 1)) (pg_name (i := 4) sc_least_rooms.nd rfl (Or.inl rfl)) (pss_cons (ps_if (pt_cmpR op_eq (pe_call (ok_answer T TC) (hr.mono (by decide)) rfl T.g_answer T.F_answer.kp T.b_answer .nil pass0 (pa_cons (pv 2) (pa_cons (pv 4) pa_nil))) pe_str (nomark _)) (pss_one (ps_ret pe_non)) pss_nil) (pss_one (ps_set (i := 3) sc_least_rooms.nd rfl (Or.inl rfl) (pe_callB (call_max2 rfl) rfl T.n_max (by decide +kernel) (pa_cons (pv 3) (pa_cons (pe_callB (call_lenK K rfl) rfl T.n_len PySem.boot_len (pa_cons (pe_meth0 (pv 2) T.cl_Wood T.m_calls (ok_Wood_calls T) (hr.mono (by decide)) T.b_Wood_calls .nil pass0) pa_nil)) pa_nil))))))) (pss_one (ps_ret (pv 3)))))), ?_⟩
    refine ⟨_, rfl, fun p0 dx ny ndx ne => ⟨p0, dx, hands, 40, rfl, upd_same, fun hin A1 x H7 hx R7 S7 kp new => absurd hin.1 hn, fun hin => ?_⟩⟩
    exact k _ fun b' o e => by rw [upd_ne (ne_of_none e ny), upd_ne (ne_of_none e ndx)]; exact e
end
end Sk
end
section
/-! SwC2: _law_counts, walked (k01). -/
namespace Sk
open PySem PySem.Spec PyProof.Rows L2 SW LamL
def qLamC : Str := (envOfC "_law_counts" (defScope s_l_counts) 0 0 Value.none).qual ++ "<lambda>"
/-- all but d and the tables stay -/
def KpT (d : Addr) (H H' : Hp) : Prop := ∀ b o, b ≠ d → (∀ ps, o ≠ .tbl ps) → H b = some o → H' b = some o
theorem KpT.trans {d : Addr} {H H1 H2 : Hp} (a : KpT d H H1) (b : KpT d H1 H2) : KpT d H H2 := fun c o n z e => b c o n z (a c o n z e)
theorem KpT.kp {d : Addr} {H H' : Hp} (k : Kp d H H') : KpT d H H' := fun b o n _ e => k b o n e
theorem KpT.ext {d : Addr} {H H' : Hp} (k : LamX.ExtN H H') : KpT d H H' := fun b o _ z e => k b o e z
theorem KpT.same {d : Addr} {H H' : Hp} (k : Same H H') : KpT d H H' := fun b o _ _ e => k b o e
def spCounts (K : PySem.W.Frag) (TT : List (Addr × Str)) : Sp := fun vs H Q _ => ∃ (d a far : Addr) (ns : List Int) (m : Int), vs = [.ref d, .ref far] ∧ Dice H d a ∧ SqL K H a (ns.map V.int) ∧ H far = some (.lst [.int 0, .int m]) ∧ far ≠ d ∧ (1 ≤ m ∧ m ≤ 1000000) ∧ LamX.Tabs TT H ∧
  ∀ H', Dice H' d a → KpT d H H' → LamX.Tabs TT H' → Q (.bl true) H'
theorem tabs_lst {TT : List (Addr × Str)} {H : Hp} {L : Addr} {xs : List V} (t : LamX.Tabs TT H) (e : H L = some (.lst xs)) (o : HO) : LamX.Tabs TT (upd H L o) := fun p hp => by
  obtain ⟨ps, h1, h2, h3⟩ := t p hp
  have ne : ∀ {b : Addr} {u : HO}, H b = some u → (∀ ys, u ≠ HO.lst ys) → b ≠ L := fun {b u} q n z => by
    rw [z, e] at q
    exact n _ (Option.some.inj q).symm
  refine ⟨ps, (upd_ne (ne h1 fun ys z => by cases z)).trans h1, h2, fun pos cv hc => ?_⟩
  obtain ⟨c, e1, e2⟩ := h3 pos cv hc
  exact ⟨c, e1, (upd_ne (ne e2 fun _ => codeO_lst)).trans e2⟩
/-- what stands while the list grows -/
structure CtS (TT : List (Addr × Str)) (d a : Addr) (H0 : Hp) (od : Addr) (ov : List V) (L : Addr) (H : Hp) (fs : List (Addr × LF)) : Prop where
  dice : Dice H d a
  kp : KpT d H0 H
  tabs : LamX.Tabs TT H
  odd : H od = some (.lst ov)
  fns : Fns H L fs
  nL : H0 L = none
  ne : od ≠ L
  nd : d ≠ L
theorem Dice.extN {H H' : Hp} {d a : Addr} (D : Dice H d a) (e : LamX.ExtN H H') : Dice H' d a := by
  obtain ⟨n, i, m, r, i0, hd⟩ := D
  exact ⟨n, i, m, r, i0, e _ _ hd fun _ z => by cases z⟩
theorem CtS.add {TT : List (Addr × Str)} {d a od L : Addr} {H0 H H1 : Hp} {ov : List V} {fs : List (Addr × LF)} (s : CtS TT d a H0 od ov L H fs) (e : LamX.ExtN H H1) (t : LamX.Tabs TT H1) {f : Addr} {F : LF} (h1 : H1 f = some (LnO f F)) (h2 : H1 F.c = some (LamX.CodeO F.c F.qual)) (h3 : DfOk F H1) :
    CtS TT d a H0 od ov L (upd H1 L (.lst ((fs.map fun q => V.ref q.1) ++ [V.ref f]))) (fs ++ [(f, F)]) := by
  have f1 := s.fns.ext e
  have D1 := s.dice.extN e
  obtain ⟨n, i, m, r, i0, hd⟩ := D1
  exact ⟨⟨n, i, m, r, i0, (upd_ne s.nd).trans hd⟩, fun b o n z q => by
    have hb : b ≠ L := fun y => by rw [y, s.nL] at q; cases q
    exact (upd_ne hb).trans ((s.kp.trans (KpT.ext e)) b o n z q), tabs_lst t f1.at_ _, (upd_ne s.ne).trans (e _ _ s.odd fun _ z => by cases z), f1.add (q := (f, F)) h1 h2 h3, s.nL, s.ne, s.nd⟩
section
variable {P : Program} {w : World} {K : PySem.W.Frag} {mg : Str → Option Value} {base : Heap}
theorem ok_l_counts (T : Txt K mg) (TC : TxtB K w) {TT : List (Addr × Str)} {P1 : Addr} (TB0 : LamX.TabB base mg (He.codeOf K ("_law_counts", none)) P1) (hmT : (P1, qLamC) ∈ TT) (huT : ∀ p ∈ TT, p.1 = P1 → p.2 = qLamC) :
    FnOk P w K mg base CX0 11 (aG K "_law_counts") (fdOf K (aG K "_law_counts")) ["_law_d", "_law_far"] (spCounts K TT) := by
  obtain ⟨oc, od, dV, kV, doc, pm, an, cdv, ct, osl, e, lk, hcd, _, _⟩ := T.F_l_counts.ex
  obtain ⟨oc2, od2, dV2, kV2, doc2, pm2, an2, cdv2, ct2, osl2, e2, lk2, hcT, _, _⟩ := T.F_l_told.ex
  obtain ⟨c, rfl⟩ := He.codeIn_ref hcd
  have bT := T.b_l_told
  rw [e2] at bT
  have lkT := lk2
  rw [e2] at lkT
  have ec : He.codeOf K ("_law_counts", none) = c := He.codeOf_eq lk (by rw [e])
  rw [ec] at TB0
  have TB := TB0
  rw [e] at lk ⊢
  refine fn_of lk hcd sc_l_counts (fun vs H Q E h => ?_) (fun A outer s H vs Q E hr h => ?_)
  · obtain ⟨_, _, _, _, _, rfl, _⟩ := h; rfl
  · obtain ⟨d, a, far, ns, m, rfl, D0, hs, hf0, nfd, ⟨m1, m6⟩, ht0, k⟩ := h
    refine ⟨_, PSs.nox (pss_cons (ps_set (i := 3) sc_l_counts.nd rfl (Or.inr rfl) (pe_lst (pa_cons (pe_un un_neg (pe_ix (ix_listK K rfl) (pv 1) (pe_call (ok_l_next T) (hr.mono (by decide)) rfl T.g__law_next T.F_l_next.kp T.b_l_next .nil pass0 (pa_cons (pv 0) (pa_cons pe_int pa_nil))) (fun _ _ => rfl))) (pa_cons (pe_op op_add pe_int (pe_ix (ix_listK K rfl) (pv 1) (pe_call (ok_l_next T) (hr.mono (by decide)) rfl T.g__law_next T.F_l_next.kp T.b_l_next .nil pass0 (pa_cons (pv 0) (pa_cons pe_int pa_nil))) (fun _ _ => rfl))) (pa_cons (pe_op op_add pe_int (pe_ix (ix_listK K rfl) (pv 1) (pe_call (ok_l_next T) (hr.mono (by decide)) rfl T.g__law_next T.F_l_next.kp T.b_l_next .nil pass0 (pa_cons (pv 0) (pa_cons pe_int pa_nil))) (fun _ _ => rfl))) pa_nil))))) (pss_cons (ps_set (i := 2) sc_l_counts.nd rfl (Or.inl rfl) (pe_lst (pa_cons (LamL.pe_lam TB rfl hmT huT (LamX.lamS_by (sc := defScope s_l_counts) (by decide +kernel)) rfl) pa_nil))) (pss_cons (ps_expr (pe_bm PySem.F.plainAttrs_list PySem.F.slot_list_append PySem.F.type_list_append mt_append (pv 2) (pa_cons (LamL.pe_lam TB rfl hmT huT (LamX.lamS_by (sc := defScope s_l_counts) (by decide +kernel)) rfl) pa_nil))) (pss_cons (ps_expr (pe_bm PySem.F.plainAttrs_list PySem.F.slot_list_append PySem.F.type_list_append mt_append (pv 2) (pa_cons (LamL.pe_lam TB rfl hmT huT (LamX.lamS_by (sc := defScope s_l_counts) (by decide +kernel)) rfl) pa_nil))) (pss_cons (ps_expr (pe_bm PySem.F.plainAttrs_list PySem.F.slot_list_append PySem.F.type_list_append mt_append (pv 2) (pa_cons (LamL.pe_lam TB rfl hmT huT (LamX.lamS_by (sc := defScope s_l_counts) (by decide +kernel)) rfl) pa_nil))) (pss_cons (ps_expr (pe_bm PySem.F.plainAttrs_list PySem.F.slot_list_append PySem.F.type_list_append mt_append (pv 2) (pa_cons (LamL.pe_lam TB rfl hmT huT (LamX.lamS_by (sc := defScope s_l_counts) (by decide +kernel)) rfl) pa_nil))) (pss_cons (ps_expr (pe_bm PySem.F.plainAttrs_list PySem.F.slot_list_append PySem.F.type_list_append mt_append (pv 2) (pa_cons (LamL.pe_lam TB rfl hmT huT (LamX.lamS_by (sc := defScope s_l_counts) (by decide +kernel)) rfl) pa_nil))) (pss_one (ps_ret (pe_cmpR (op_eqDK K rfl hr.units) (LamL.pe_lcF (own := [("_law_work", 4)]) (g := gName 4) rfl sc_l_counts.nd (pi_listK K rfl (pv 2)) (blkOk_by (own := [("_law_work", 4)]) (N := ["_law_d", "_law_far", "_law_works_here", "_law_odd", "_law_work"]) (sc := (defScope s_l_counts)) (by decide +kernel)) (fun _ _ _ _ _ => pg_name (i := 4) sc_l_counts.nd rfl (Or.inl rfl)) (fun _ _ _ _ _ _ hF => by exact (pts_one (pt_cmpR op_ne (LamL.pe_toldWK (P := P) (w := w) (K := K) (mg := mg) (base := base) rfl rfl rfl rfl rfl (k := 8) (by exact hF) rfl T.g__law_told T.F_l_told.kp lkT hcT bT sc_l_told rfl (.inl rfl) (fun _ => told_givesX T rfl rfl) (hr.mono (by decide)) (i := 4) rfl (.inl rfl)) pe_str (nomark _)))) (fun _ _ _ _ _ => by exact (pv 4))) (pe_lst pa_nil) (nomark _))))))))))), ?_⟩
    have atf : ∀ v : Int, 0 ≤ v → v < 2 → ∃ x : Int, atI [V.int 0, V.int m] v = some (V.int x) ∧ 0 ≤ x ∧ x ≤ 1000000 := fun v h0 h2 => by
      have : v = 0 ∨ v = 1 := by omega
      rcases this with z | z
      · subst z; exact ⟨0, rfl, by omega, by omega⟩
      · subst z; exact ⟨m, rfl, by omega, by omega⟩
    refine ⟨_, rfl, _, rfl, d, a, 2, ns, rfl, D0, hs, ⟨by decide, by decide⟩, fun v1 i1 m1' r1 a1 b1 c1 => ?_⟩
    obtain ⟨D1, hs1, k1⟩ := draw D0 hs (m := m1') (r := r1) c1
    obtain ⟨x1, at1, p1, p2⟩ := atf v1 a1 b1
    have hf1 := k1 _ _ nfd hf0
    refine ⟨far, _, v1, V.int x1, rfl, rfl, SqL.of hf1, at1, ?_⟩
    refine ⟨_, rfl, ?_⟩
    refine ⟨_, rfl, _, rfl, d, a, 2, ns, rfl, D1, hs1, ⟨by decide, by decide⟩, fun v2 i2 m2 r2 a2 b2 c2 => ?_⟩
    obtain ⟨D2, hs2, k2⟩ := draw D1 hs1 (m := m2) (r := r2) c2
    obtain ⟨x2, at2, p3, p4⟩ := atf v2 a2 b2
    have hf2 := k2 _ _ nfd hf1
    refine ⟨far, _, v2, V.int x2, rfl, rfl, SqL.of hf2, at2, _, _, rfl, rfl, ?_⟩
    refine ⟨_, rfl, _, rfl, d, a, 2, ns, rfl, D2, hs2, ⟨by decide, by decide⟩, fun v3 i3 m3 r3 a3 b3 c3 => ?_⟩
    obtain ⟨D3, hs3, k3⟩ := draw D2 hs2 (m := m3) (r := r3) c3
    obtain ⟨x3, at3, p5, p6⟩ := atf v3 a3 b3
    have hf3 := k3 _ _ nfd hf2
    refine ⟨far, _, v3, V.int x3, rfl, rfl, SqL.of hf3, at3, _, _, rfl, rfl, ?_⟩
    have t3 := tabs_kp (tabs_kp (tabs_kp ht0 k1 D0) k2 D1) k3 D2
    have kk := (k1.trans k2).trans k3
    generalize upd (upd (upd H d (.lst (diceL a i1 m1' r1))) d (.lst (diceL a i2 m2 r2))) d (.lst (diceL a i3 m3 r3)) = H3 at D3 hs3 hf3 t3 kk
    clear D1 hs1 k1 D2 hs2 k2 k3 hf1 hf2 D0 hs hf0 ht0
    refine ⟨by show 3 ≤ sizeLine; exact sz (by omega), fun od nod => ?_⟩
    have e4 := same_new nod (.lst [V.int (-x1), V.int (7 + x2), V.int (41 + x3)])
    have ho4 : upd H3 od (.lst [V.int (-x1), V.int (7 + x2), V.int (41 + x3)]) od = some (.lst [V.int (-x1), V.int (7 + x2), V.int (41 + x3)]) := upd_same
    have D4 := dice_new (o := .lst [V.int (-x1), V.int (7 + x2), V.int (41 + x3)]) D3 nod
    have t4 := t3.ext e4
    have kk4 := (KpT.kp kk).trans (KpT.same (d := d) e4)
    have kn : ∀ b, upd H3 od (.lst [V.int (-x1), V.int (7 + x2), V.int (41 + x3)]) b = none → b ≠ d → H b = none := fun b z n => by
      cases q : H b with
      | none => rfl
      | some o => rw [e4 _ _ (kk b o n q)] at z; cases z
    generalize upd H3 od (.lst [V.int (-x1), V.int (7 + x2), V.int (41 + x3)]) = H4 at ho4 D4 t4 kk4 kn
    clear D3 hs3 hf3 t3 kk e4 nod
    refine gName_to ?_
    refine ⟨t4, fun f1 c1 H5 y1 g1 t5 nf1 hf1 hc1 => ?_⟩
    refine ⟨by show 1 ≤ sizeLine; exact sz (by omega), fun L nL => ?_⟩
    have ndL : d ≠ L := by
      obtain ⟨n, i, m, r, i0, hd⟩ := D4.extN y1
      exact ne_of_none hd nL
    have S1 : CtS TT d a H od [V.int (-x1), V.int (7 + x2), V.int (41 + x3)] L (upd H5 L (.lst [V.ref f1])) _ := ⟨by
      obtain ⟨n, i, m, r, i0, hd⟩ := D4.extN y1
      exact ⟨n, i, m, r, i0, (upd_ne ndL).trans hd⟩, (kk4.trans (KpT.ext y1)).trans (KpT.same (same_new nL _)), t5.ext (same_new nL _), (upd_ne (ne_of_none (y1 _ _ ho4 fun _ z => by cases z) nL)).trans (y1 _ _ ho4 fun _ z => by cases z), Fns.one (q := (f1, _)) nL hf1 hc1 (.inl rfl), kn L (g1 L nL) ndL.symm, ne_of_none (y1 _ _ ho4 fun _ z => by cases z) nL, ndL⟩
    clear D4 t4 kk4 kn ho4 y1 g1 t5 nf1 hf1 hc1 nL
    refine gName_to ?_
    refine ⟨_, rfl, .inl ⟨rfl, _, SqL.of S1.fns.at_⟩, S1.tabs, fun f2 c2 G2 y2 _ t2 _ hf2 hc2 => ?_⟩
    refine ⟨L, _, _, rfl, rfl, (S1.fns.ext y2).at_, szl (by simp), ?_⟩
    have S2 := S1.add y2 t2 hf2 hc2 (.inl rfl)
    refine ⟨_, rfl, .inl ⟨rfl, _, SqL.of S2.fns.at_⟩, S2.tabs, fun f3 c3 G3 y3 _ t3 _ hf3 hc3 => ?_⟩
    refine ⟨L, _, _, rfl, rfl, (S2.fns.ext y3).at_, szl (by simp), ?_⟩
    have S3 := S2.add y3 t3 hf3 hc3 (.inl rfl)
    refine ⟨_, rfl, .inl ⟨rfl, _, SqL.of S3.fns.at_⟩, S3.tabs, fun f4 c4 G4 y4 _ t4 _ hf4 hc4 => ?_⟩
    refine ⟨L, _, _, rfl, rfl, (S3.fns.ext y4).at_, szl (by simp), ?_⟩
    have S4 := S3.add y4 t4 hf4 hc4 (.inl rfl)
    refine ⟨_, rfl, .inl ⟨rfl, _, SqL.of S4.fns.at_⟩, S4.tabs, fun f5 c5 G5 y5 _ t5 _ hf5 hc5 => ?_⟩
    refine ⟨L, _, _, rfl, rfl, (S4.fns.ext y5).at_, szl (by simp), ?_⟩
    have S5 := S4.add y5 t5 hf5 hc5 (.inl rfl)
    refine ⟨_, rfl, .inl ⟨rfl, _, SqL.of S5.fns.at_⟩, S5.tabs, fun f6 c6 G6 y6 _ t6 _ hf6 hc6 => ?_⟩
    refine ⟨L, _, _, rfl, rfl, (S5.fns.ext y6).at_, szl (by simp), ?_⟩
    have S6 := S5.add y6 t6 hf6 hc6 (.inl rfl)
    generalize hh : upd G6 L _ = HH
    rw [hh] at S6
    clear hh S5 S4 S3 S2 S1
    refine ⟨_, rfl, L, rfl, ⟨_, SqL.of S6.fns.at_⟩, fun D nD => ?_⟩
    have KM := fun hM hR hQ => kept_mineK (σ := [some (.ref d), some (.ref far), some (.ref L), some (.ref od), none]) (D := D) (Q := fun x H1 => tLst tNil [some (.ref d), some (.ref far), some (.ref L), some (.ref od), none] H1 fun y H2 => rEqD K x y H2 Q) (P := P) (w := w) (K := K) (mg := mg) (base := base) (i := 4) (k := 8) (te := tVar 4) (vs := [4]) (wd := "BadWood") rfl rfl rfl rfl rfl rfl rfl (X := (cxOf CX0 P w K mg base ["_law_d", "_law_far", "_law_works_here", "_law_odd", "_law_work"] "_law_counts" (defScope s_l_counts) (aG K "_law_counts") (Value.ref c) A outer s H E).nox) (en := .wood) (I := fun H' => H' od = some (.lst [V.int (-x1), V.int (7 + x2), V.int (41 + x3)])) (fun x hx => cell_has hx) S6.fns nD (by show 4 < 5; omega) hM hR (fun H' e => e _ _ S6.odd) hQ
    refine (fun KM' => ?main) (KM ?hM ?hR ?hQ)
    case main =>
      obtain ⟨cs, Φ, k1, k2, k3, Wd, k4, k5⟩ := KM'
      refine ⟨cs, Φ, k1, k2, k3, Wd, k4, fun i m H hw => ?_⟩
      rcases k5 i m H hw with ⟨a, b⟩ | ⟨a, Nx, b, c⟩
      · exact .inl ⟨a, b⟩
      · exact .inr ⟨a, Nx, b, c⟩
    case hQ =>
      intro H' e' hD
      refine ⟨by show 0 ≤ sizeLine; exact sz (by omega), fun p np => ?_⟩
      have e9 := e'.trans (same_new np (.lst []))
      refine ⟨.list [], .list [], ?_, ?_, rfl, rfl, ?_⟩
      · exact dp_nil (same_new np (.lst []) _ _ hD)
      · exact dp_nil upd_same
      · rw [show PyData.eqv (.list []) (.list []) = true from by decide +kernel]
        exact k _ (S6.dice.extN (LamX.ExtN.of e9)) (S6.kp.trans (KpT.same e9)) (S6.tabs.ext e9)
    case hM =>
      intro q hq
      simp only [List.mem_append, List.mem_singleton] at hq
      rcases hq with ((((rfl | rfl) | rfl) | rfl) | rfl) | rfl <;> exact ⟨_, _, _, _, _, rfl, fun y hy e => by
        simp only [List.mem_cons, List.not_mem_nil, or_false] at hy
        rcases hy with rfl | rfl <;> first | rfl | cases e⟩
    case hR =>
      intro q hq
      simp only [List.mem_append, List.mem_singleton] at hq
      rcases hq with ((((rfl | rfl) | rfl) | rfl) | rfl) | rfl
      · refine ⟨_, lok_of (k := 7) (lsc_of (LamX.lamS_by (sc := defScope s_l_counts) (by decide +kernel))) (lbinds0 rfl fun _ _ _ => rfl) (fun A outer s H E hr => by exact (pe_make T.mk_Wood (ok_Wood_init T) (hr.mono (by decide)) rfl T.g_Wood T.b_Wood_init .nil (passes_call (takes_of rfl rfl rfl rfl) (fun _ _ _ _ h => h)) (pa_cons (pe_ix (ix_listK K rfl) (pv 3) pe_int (fun _ _ => rfl)) (pa_cons pe_int pa_nil)))), fun H' E' Q' hI he => ?_⟩
        refine ⟨_, rfl, od, _, 0, _, rfl, rfl, SqL.of hI, atI_nat (j := 0) rfl, fun p0 dx ny ndx ne => ⟨p0, dx, -x1, 9, rfl, upd_same, fun hin A1 x H7 hx R7 S7 kp new => absurd hin fun z => by have := z.1; have := z.2; omega, fun hin => he _ fun b' o e => by rw [upd_ne (ne_of_none e ny), upd_ne (ne_of_none e ndx)]; exact e⟩⟩
      · refine ⟨_, lok_of (k := 7) (lsc_of (LamX.lamS_by (sc := defScope s_l_counts) (by decide +kernel))) (lbinds0 rfl fun _ _ _ => rfl) (fun A outer s H E hr => by exact (pe_make T.mk_Wood (ok_Wood_init T) (hr.mono (by decide)) rfl T.g_Wood T.b_Wood_init .nil (passes_call (takes_of rfl rfl rfl rfl) (fun _ _ _ _ h => h)) (pa_cons (pe_ix (ix_listK K rfl) (pv 3) pe_int (fun _ _ => rfl)) (pa_cons pe_int pa_nil)))), fun H' E' Q' hI he => ?_⟩
        refine ⟨_, rfl, od, _, 1, _, rfl, rfl, SqL.of hI, atI_nat (j := 1) rfl, fun p0 dx ny ndx ne => ⟨p0, dx, 7 + x2, 9, rfl, upd_same, fun hin A1 x H7 hx R7 S7 kp new => absurd hin fun z => by have := z.1; have := z.2; omega, fun hin => he _ fun b' o e => by rw [upd_ne (ne_of_none e ny), upd_ne (ne_of_none e ndx)]; exact e⟩⟩
      · refine ⟨_, lok_of (k := 7) (lsc_of (LamX.lamS_by (sc := defScope s_l_counts) (by decide +kernel))) (lbinds0 rfl fun _ _ _ => rfl) (fun A outer s H E hr => by exact (pe_make T.mk_Wood (ok_Wood_init T) (hr.mono (by decide)) rfl T.g_Wood T.b_Wood_init .nil (passes_call (takes_of rfl rfl rfl rfl) (fun _ _ _ _ h => h)) (pa_cons pe_int (pa_cons (pe_ix (ix_listK K rfl) (pv 3) pe_int (fun _ _ => rfl)) pa_nil)))), fun H' E' Q' hI he => ?_⟩
        refine ⟨_, rfl, od, _, 0, _, rfl, rfl, SqL.of hI, atI_nat (j := 0) rfl, fun p0 dx ny ndx ne => ⟨p0, dx, 2, -x1, rfl, upd_same, fun hin A1 x H7 hx R7 S7 kp new => absurd hin fun z => by have := z.1; have := z.2; omega, fun hin => he _ fun b' o e => by rw [upd_ne (ne_of_none e ny), upd_ne (ne_of_none e ndx)]; exact e⟩⟩
      · refine ⟨_, lok_of (k := 7) (lsc_of (LamX.lamS_by (sc := defScope s_l_counts) (by decide +kernel))) (lbinds0 rfl fun _ _ _ => rfl) (fun A outer s H E hr => by exact (pe_make T.mk_Wood (ok_Wood_init T) (hr.mono (by decide)) rfl T.g_Wood T.b_Wood_init .nil (passes_call (takes_of rfl rfl rfl rfl) (fun _ _ _ _ h => h)) (pa_cons pe_int (pa_cons (pe_ix (ix_listK K rfl) (pv 3) pe_int (fun _ _ => rfl)) pa_nil)))), fun H' E' Q' hI he => ?_⟩
        refine ⟨_, rfl, od, _, 2, _, rfl, rfl, SqL.of hI, atI_nat (j := 2) rfl, fun p0 dx ny ndx ne => ⟨p0, dx, 2, 41 + x3, rfl, upd_same, fun hin A1 x H7 hx R7 S7 kp new => absurd hin fun z => by have := z.1; have := z.2; omega, fun hin => he _ fun b' o e => by rw [upd_ne (ne_of_none e ny), upd_ne (ne_of_none e ndx)]; exact e⟩⟩
      · refine ⟨_, lok_of (k := 7) (lsc_of (LamX.lamS_by (sc := defScope s_l_counts) (by decide +kernel))) (lbinds0 rfl fun _ _ _ => rfl) (fun A outer s H E hr => by exact (pe_call (ok_played T TC) (hr.mono (by decide)) rfl T.g_played T.F_played.kp T.b_played .nil (passes_call (takes_of rfl rfl rfl rfl) (fun _ _ _ _ h => h)) (pa_cons (pe_ix (ix_listK K rfl) (pv 3) pe_int (fun _ _ => rfl)) (pa_cons pe_int (pa_cons (pe_lst (pa_cons pe_str pa_nil)) pa_nil))))), fun H' E' Q' hI he => ?_⟩
        refine ⟨_, rfl, od, _, 1, _, rfl, rfl, SqL.of hI, atI_nat (j := 1) rfl, by show 1 ≤ sizeLine; exact sz (by omega), fun l nl => ⟨7 + x2, 9, l, ["x"], rfl, SqL.of upd_same, by show 1 ≤ 800; omega, fun t ht => ?_, fun z => absurd z.1.2 (by omega), fun _ H2 e2 => he _ ((same_new nl _).trans e2)⟩⟩
        rw [List.mem_singleton.mp ht]
        exact ⟨by decide +kernel, by decide +kernel⟩
      · refine ⟨_, lok_of (k := 7) (lsc_of (LamX.lamS_by (sc := defScope s_l_counts) (by decide +kernel))) (lbinds0 rfl fun _ _ _ => rfl) (fun A outer s H E hr => by exact (pe_call (ok_least_rooms T TC) (hr.mono (by decide)) rfl T.g_least_rooms T.F_least_rooms.kp T.b_least_rooms .nil (passes_call (takes_of rfl rfl rfl rfl) (fun _ _ _ _ h => h)) (pa_cons (pe_ix (ix_listK K rfl) (pv 3) pe_int (fun _ _ => rfl)) (pa_cons (pe_lst (pa_cons pe_str pa_nil)) pa_nil)))), fun H' E' Q' hI he => ?_⟩
        exact ⟨_, rfl, od, _, 0, _, rfl, rfl, SqL.of hI, atI_nat (j := 0) rfl, by show 1 ≤ sizeLine; exact sz (by omega), fun l nl => ⟨-x1, l, rfl, by omega, fun H2 e2 => he _ ((same_new nl _).trans e2)⟩⟩
end
end Sk
end
section
/-! SwC3: _law_works, walked (k01): thirteen lambdas that are handed a hand. -/
namespace Sk
open PySem PySem.Spec PyProof.Rows L2 SW LamL
def qLamW : Str := (envOfC "_law_works" (defScope s_l_works) 0 0 Value.none).qual ++ "<lambda>"
abbrev wkN : List Str := ["_law_wood_here", "_law_hand", "_law_other", "_law_works_here"]
abbrev wkS (p : Addr) (h o : Int) (L : Addr) : L2.St := [some (.ref p), some (.int h), some (.int o), some (.ref L)]
/-- what _law_works leaves: the list L of lambdas fs in H', its cells M -/
structure WorksOk (P : Program) (w : World) (K : PySem.W.Frag) (mg : Str → Option Value) (base : Heap) (TT : List (Addr × Str)) (p : Addr) (h o : Int) (H H' : Hp) (L : Addr) (fs : List (Addr × LF)) (M : List (Addr × V)) : Prop where
  ext : LamX.ExtN H H'
  tabs : LamX.Tabs TT H'
  fns : Fns H' L fs
  none : ∀ c v, M.lookup c = some v → H' c = none
  cl : ∀ q ∈ fs, (∀ y c, q.2.cl.lookup y = some c → ∃ v, M.lookup c = some v ∧ ∀ i : Nat, wkN[i]? = some y → (wkS p h o L)[i]? = some (some v)) ∧ ∀ x y c, q.2.cl.lookup x = some c → q.2.cl.lookup y = some c → x = y
  refs : ∀ (x : Ad) (W : Wd), p = x.p → ¬ hOk W h → 1 ≤ W.tops.length → W.marks.length ≤ 100000 → ∀ q ∈ fs, Refs P w K mg base 8 .hand (fun H => ∃ A, At K A H x W) wkN (wkS p h o L) q
def spWorks (P : Program) (w : World) (K : PySem.W.Frag) (mg : Str → Option Value) (base : Heap) (TT : List (Addr × Str)) : Sp := fun vs H Q _ => ∃ (p : Addr) (h o : Int), vs = [.ref p, .int h, .int o] ∧ LamX.Tabs TT H ∧
  ∀ L fs H' M, WorksOk P w K mg base TT p h o H H' L fs M → Q (.ref L) (layC M H')
theorem look_cells {X : Cx} (hj : ∀ x y c, X.env.cells.lookup x = some c → X.env.cells.lookup y = some c → x = y) {y : Str} {c : Addr} {v : V} (hy : X.env.cells.lookup y = some c) : ∀ {cs : List (Str × V)}, (∀ q ∈ cs, ∃ c, X.env.cells.lookup q.1 = some c) → (cs.map (·.1)).Nodup → (y, v) ∈ cs → (cellsL X cs).lookup c = some v
  | [], _, _, h => by cases h
  | q :: cs, hc, nd, h => by
    obtain ⟨c1, e1⟩ := hc q List.mem_cons_self
    have nd' := List.nodup_cons.mp nd
    show (((X.env.cells.lookup q.1).getD 0, q.2) :: cellsL X cs).lookup c = some v
    rw [e1, List.lookup_cons]
    show (match c == c1 with | true => some q.2 | false => (cellsL X cs).lookup c) = some v
    cases z : c == c1 with
    | true =>
      have z : c = c1 := by simpa using z
      subst z
      have ey := hj _ _ _ hy e1
      rcases List.mem_cons.mp h with w | w
      · rw [← w]
      · exact absurd (List.mem_map.mpr ⟨_, w, ey⟩) nd'.1
    | false =>
      rcases List.mem_cons.mp h with w | w
      · rw [← w] at e1
        rw [hy] at e1
        have := Option.some.inj e1
        rw [this] at z
        simp at z
      · exact look_cells hj hy (fun q hq => hc q (List.mem_cons_of_mem _ hq)) nd'.2 w
theorem cl_of {X : Cx} {cs : List (Str × V)} (hj : ∀ x y c, X.env.cells.lookup x = some c → X.env.cells.lookup y = some c → x = y) (hc : ∀ q ∈ cs, ∃ c, X.env.cells.lookup q.1 = some c) (nd : (cs.map (·.1)).Nodup) {names : List (Str × NameKind)} (hf : ∀ y ∈ names, y.2 = .free → ∃ v, (y.1, v) ∈ cs) {y : Str} {c : Addr} (e : (cloFrom X.env.cells names []).lookup y = some c) :
    ∃ v, (y, v) ∈ cs ∧ (cellsL X cs).lookup c = some v := by
  have hfree : ∀ y ∈ names, y.2 = .free → ∃ c, X.env.cells.lookup y.1 = some c := fun y hy z => by
    obtain ⟨v, hv⟩ := hf y hy z
    exact hc _ hv
  rcases cloFrom_mem (PySem.mem_of_lookup e) with hm | ⟨h1, _⟩
  · cases hm
  · obtain ⟨v, hv⟩ := hf _ h1 rfl
    exact ⟨v, hv, look_cells hj (NdefX.clo_cm hfree e) hc nd hv⟩
theorem link3 {p L : Addr} {h o : Int} {y : Str} {v : V} (m : (y, v) ∈ [(("_law_wood_here" : Str), V.ref p), ("_law_hand", V.int h), ("_law_other", V.int o)]) (i : Nat) (e : wkN[i]? = some y) : (wkS p h o L)[i]? = some (some v) := by
  simp only [List.mem_cons, List.not_mem_nil, or_false, Prod.mk.injEq] at m
  have ab : ∀ {a b : Str}, decide (a = b) = false → some a = some b → False := fun d z => by rw [decide_eq_true (Option.some.inj z)] at d; cases d
  rcases m with ⟨rfl, rfl⟩ | ⟨rfl, rfl⟩ | ⟨rfl, rfl⟩
  · match i with
    | 0 => rfl
    | 1 => exact (ab (by decide +kernel) e).elim
    | 2 => exact (ab (by decide +kernel) e).elim
    | 3 => exact (ab (by decide +kernel) e).elim
    | i + 4 => cases e
  · match i with
    | 0 => exact (ab (by decide +kernel) e).elim
    | 1 => rfl
    | 2 => exact (ab (by decide +kernel) e).elim
    | 3 => exact (ab (by decide +kernel) e).elim
    | i + 4 => cases e
  · match i with
    | 0 => exact (ab (by decide +kernel) e).elim
    | 1 => exact (ab (by decide +kernel) e).elim
    | 2 => rfl
    | 3 => exact (ab (by decide +kernel) e).elim
    | i + 4 => cases e
theorem cl_of3 {X : Cx} {p L : Addr} {h o : Int} (hj : ∀ x y c, X.env.cells.lookup x = some c → X.env.cells.lookup y = some c → x = y) (hc : ∀ x, X.env.scope.names.lookup x = some .cell → ∃ c, X.env.cells.lookup x = some c)
    (h1 : X.env.scope.names.lookup ("_law_wood_here" : Str) = some NameKind.cell) (h2 : X.env.scope.names.lookup ("_law_hand" : Str) = some NameKind.cell) (h3 : X.env.scope.names.lookup ("_law_other" : Str) = some NameKind.cell) {F : LF} {params : Arguments} {body : Expr} {scope : Scope} {c' : Addr} {df : Value} (eF : F = LF.of X params body scope c' df) (hb : (scope.names.all fun y => !decide (y.2 = NameKind.free) || decide (y.1 ∈ (["_law_wood_here", "_law_hand", "_law_other"] : List Str))) = true) :
    (∀ y c, F.cl.lookup y = some c → ∃ v, (cellsL X [("_law_wood_here", .ref p), ("_law_hand", .int h), ("_law_other", .int o)]).lookup c = some v ∧ ∀ i : Nat, wkN[i]? = some y → (wkS p h o L)[i]? = some (some v)) ∧ ∀ x y c, F.cl.lookup x = some c → F.cl.lookup y = some c → x = y := by
  subst eF
  have hf : ∀ y ∈ scope.names, y.2 = .free → ∃ v, (y.1, v) ∈ [(("_law_wood_here" : Str), V.ref p), ("_law_hand", V.int h), ("_law_other", V.int o)] := fun y hy z => by
    have := List.all_eq_true.mp hb y hy
    rw [z] at this
    simp only [decide_true, Bool.not_true, Bool.false_or, decide_eq_true_eq, List.mem_cons, List.not_mem_nil, or_false] at this
    rcases this with q | q | q
    · exact ⟨V.ref p, by rw [q]; simp⟩
    · exact ⟨V.int h, by rw [q]; simp⟩
    · exact ⟨V.int o, by rw [q]; simp⟩
  have hcs : ∀ q ∈ [(("_law_wood_here" : Str), V.ref p), ("_law_hand", V.int h), ("_law_other", V.int o)], ∃ c, X.env.cells.lookup q.1 = some c := fun q hq => by
    simp only [List.mem_cons, List.not_mem_nil, or_false] at hq
    rcases hq with rfl | rfl | rfl
    · exact hc _ h1
    · exact hc _ h2
    · exact hc _ h3
  have hfree : ∀ y ∈ scope.names, y.2 = .free → ∃ c, X.env.cells.lookup y.1 = some c := fun y hy z => by
    obtain ⟨v, hv⟩ := hf y hy z
    exact hcs _ hv
  refine ⟨fun y c e => ?_, fun x y c e1 e2 => hj x y c (NdefX.clo_cm hfree e1) (NdefX.clo_cm hfree e2)⟩
  obtain ⟨v, m, l⟩ := cl_of hj hcs (by show (["_law_wood_here", "_law_hand", "_law_other"] : List Str).Nodup; decide +kernel) hf e
  exact ⟨v, l, link3 m⟩
/-- what stands while the list grows -/
structure WkS (TT : List (Addr × Str)) (H0 : Hp) (L : Addr) (H : Hp) (fs : List (Addr × LF)) : Prop where
  ext : LamX.ExtN H0 H
  tabs : LamX.Tabs TT H
  fns : Fns H L fs
  nL : H0 L = none
theorem WkS.add {TT : List (Addr × Str)} {H0 H H1 : Hp} {L : Addr} {fs : List (Addr × LF)} (s : WkS TT H0 L H fs) (e : LamX.ExtN H H1) (t : LamX.Tabs TT H1) {f : Addr} {F : LF} (h1 : H1 f = some (LnO f F)) (h2 : H1 F.c = some (LamX.CodeO F.c F.qual)) (h3 : DfOk F H1) :
    WkS TT H0 L (upd H1 L (.lst ((fs.map fun q => V.ref q.1) ++ [V.ref f]))) (fs ++ [(f, F)]) := by
  have f1 := s.fns.ext e
  exact ⟨fun b o q z => by
    have hb : b ≠ L := fun y => by rw [y, s.nL] at q; cases q
    exact (upd_ne hb).trans ((s.ext.trans e) b o q z), tabs_lst t f1.at_ _, f1.add (q := (f, F)) h1 h2 h3, s.nL⟩
section
variable {P : Program} {w : World} {K : PySem.W.Frag} {mg : Str → Option Value} {base : Heap}
theorem ok_l_works (T : Txt K mg) {TT : List (Addr × Str)} {P2 : Addr} (TB0 : LamX.TabB base mg (He.codeOf K ("_law_works", none)) P2) (hmT : (P2, qLamW) ∈ TT) (huT : ∀ p ∈ TT, p.1 = P2 → p.2 = qLamW) :
    FnOk P w K mg base CX0 10 (aG K "_law_works") (fdOf K (aG K "_law_works")) ["_law_wood_here", "_law_hand", "_law_other"] (spWorks P w K mg base TT) := by
  obtain ⟨oc, od, dV, kV, doc, pm, an, cdv, ct, osl, e, lk, hcd, _, _⟩ := T.F_l_works.ex
  obtain ⟨c, rfl⟩ := He.codeIn_ref hcd
  have ec : He.codeOf K ("_law_works", none) = c := He.codeOf_eq lk (by rw [e])
  rw [ec] at TB0
  have TB := TB0
  rw [e] at lk ⊢
  refine fn_ofC (pre := (defBody s_l_works).take 13) (i := 3) (y := "_law_works_here") lk hcd sc_l_works rfl rfl (.inl rfl) rfl rfl (fun vs H Q E h => ?_) (fun A outer s H vs Q E hr h => ?_)
  · obtain ⟨_, _, _, rfl, _⟩ := h; rfl
  · obtain ⟨p, h, o, rfl, ht0, k⟩ := h
    refine ⟨_, (psk_cons (ps_set (i := 3) sc_l_works.nd rfl (Or.inl rfl) (pe_lst (pa_cons (LamL.pe_lam TB rfl hmT huT (LamX.lamS_by (sc := defScope s_l_works) (by decide +kernel)) rfl) pa_nil))) (psk_cons (ps_expr (pe_bm PySem.F.plainAttrs_list PySem.F.slot_list_append PySem.F.type_list_append mt_append (pv 3) (pa_cons (LamL.pe_lam TB rfl hmT huT (LamX.lamS_by (sc := defScope s_l_works) (by decide +kernel)) rfl) pa_nil))) (psk_cons (ps_expr (pe_bm PySem.F.plainAttrs_list PySem.F.slot_list_append PySem.F.type_list_append mt_append (pv 3) (pa_cons (LamL.pe_lam TB rfl hmT huT (LamX.lamS_by (sc := defScope s_l_works) (by decide +kernel)) rfl) pa_nil))) (psk_cons (ps_expr (pe_bm PySem.F.plainAttrs_list PySem.F.slot_list_append PySem.F.type_list_append mt_append (pv 3) (pa_cons (LamL.pe_lam TB rfl hmT huT (LamX.lamS_by (sc := defScope s_l_works) (by decide +kernel)) rfl) pa_nil))) (psk_cons (ps_expr (pe_bm PySem.F.plainAttrs_list PySem.F.slot_list_append PySem.F.type_list_append mt_append (pv 3) (pa_cons (LamL.pe_lam TB rfl hmT huT (LamX.lamS_by (sc := defScope s_l_works) (by decide +kernel)) rfl) pa_nil))) (psk_cons (ps_expr (pe_bm PySem.F.plainAttrs_list PySem.F.slot_list_append PySem.F.type_list_append mt_append (pv 3) (pa_cons (LamL.pe_lam TB rfl hmT huT (LamX.lamS_by (sc := defScope s_l_works) (by decide +kernel)) rfl) pa_nil))) (psk_cons (ps_expr (pe_bm PySem.F.plainAttrs_list PySem.F.slot_list_append PySem.F.type_list_append mt_append (pv 3) (pa_cons (LamL.pe_lam TB rfl hmT huT (LamX.lamS_by (sc := defScope s_l_works) (by decide +kernel)) rfl) pa_nil))) (psk_cons (ps_expr (pe_bm PySem.F.plainAttrs_list PySem.F.slot_list_append PySem.F.type_list_append mt_append (pv 3) (pa_cons (LamL.pe_lam TB rfl hmT huT (LamX.lamS_by (sc := defScope s_l_works) (by decide +kernel)) rfl) pa_nil))) (psk_cons (ps_expr (pe_bm PySem.F.plainAttrs_list PySem.F.slot_list_append PySem.F.type_list_append mt_append (pv 3) (pa_cons (LamL.pe_lam TB rfl hmT huT (LamX.lamS_by (sc := defScope s_l_works) (by decide +kernel)) rfl) pa_nil))) (psk_cons (ps_expr (pe_bm PySem.F.plainAttrs_list PySem.F.slot_list_append PySem.F.type_list_append mt_append (pv 3) (pa_cons (LamL.pe_lam TB rfl hmT huT (LamX.lamS_by (sc := defScope s_l_works) (by decide +kernel)) rfl) pa_nil))) (psk_cons (ps_expr (pe_bm PySem.F.plainAttrs_list PySem.F.slot_list_append PySem.F.type_list_append mt_append (pv 3) (pa_cons (LamL.pe_lam TB rfl hmT huT (LamX.lamS_by (sc := defScope s_l_works) (by decide +kernel)) rfl) pa_nil))) (psk_cons (ps_expr (pe_bm PySem.F.plainAttrs_list PySem.F.slot_list_append PySem.F.type_list_append mt_append (pv 3) (pa_cons (LamL.pe_lam TB rfl hmT huT (LamX.lamS_by (sc := defScope s_l_works) (by decide +kernel)) rfl) pa_nil))) (psk_cons (ps_expr (pe_bm PySem.F.plainAttrs_list PySem.F.slot_list_append PySem.F.type_list_append mt_append (pv 3) (pa_cons (LamL.pe_lam TB rfl hmT huT (LamX.lamS_by (sc := defScope s_l_works) (by decide +kernel)) rfl) pa_nil))) psk_nil))))))))))))), ?_⟩
    refine ⟨ht0, fun f1 c1 H5 y1 g1 t5 nf1 hf1 hc1 => ?_⟩
    refine ⟨by show 1 ≤ sizeLine; exact sz (by omega), fun L nL => ?_⟩
    have S1 : WkS TT H L (upd H5 L (.lst [V.ref f1])) _ := ⟨y1.trans (LamX.ExtN.of (same_new nL _)), t5.ext (same_new nL _), Fns.one (q := (f1, _)) nL hf1 hc1 (.inl rfl), g1 L nL⟩
    clear y1 g1 t5 nf1 hf1 hc1 nL
    refine gName_to ?_
    refine ⟨_, rfl, .inl ⟨rfl, _, SqL.of S1.fns.at_⟩, S1.tabs, fun f2 c2 G2 y2 _ t2 _ hf2 hc2 => ?_⟩
    refine ⟨L, _, _, rfl, rfl, (S1.fns.ext y2).at_, szl (by simp), ?_⟩
    have S2 := S1.add y2 t2 hf2 hc2 (.inl rfl)
    generalize hh : upd G2 L _ = HH2
    rw [hh] at S2
    clear hh S1 y2 t2 hf2 hc2
    refine ⟨_, rfl, .inl ⟨rfl, _, SqL.of S2.fns.at_⟩, S2.tabs, fun f3 c3 G3 y3 _ t3 _ hf3 hc3 => ?_⟩
    refine ⟨L, _, _, rfl, rfl, (S2.fns.ext y3).at_, szl (by simp), ?_⟩
    have S3 := S2.add y3 t3 hf3 hc3 (.inl rfl)
    generalize hh : upd G3 L _ = HH3
    rw [hh] at S3
    clear hh S2 y3 t3 hf3 hc3
    refine ⟨_, rfl, .inl ⟨rfl, _, SqL.of S3.fns.at_⟩, S3.tabs, fun f4 c4 G4 y4 _ t4 _ hf4 hc4 => ?_⟩
    refine ⟨L, _, _, rfl, rfl, (S3.fns.ext y4).at_, szl (by simp), ?_⟩
    have S4 := S3.add y4 t4 hf4 hc4 (.inl rfl)
    generalize hh : upd G4 L _ = HH4
    rw [hh] at S4
    clear hh S3 y4 t4 hf4 hc4
    refine ⟨_, rfl, .inl ⟨rfl, _, SqL.of S4.fns.at_⟩, S4.tabs, fun f5 c5 G5 y5 _ t5 _ hf5 hc5 => ?_⟩
    refine ⟨L, _, _, rfl, rfl, (S4.fns.ext y5).at_, szl (by simp), ?_⟩
    have S5 := S4.add y5 t5 hf5 hc5 (.inl rfl)
    generalize hh : upd G5 L _ = HH5
    rw [hh] at S5
    clear hh S4 y5 t5 hf5 hc5
    refine ⟨_, rfl, .inl ⟨rfl, _, SqL.of S5.fns.at_⟩, S5.tabs, fun f6 c6 G6 y6 _ t6 _ hf6 hc6 => ?_⟩
    refine ⟨L, _, _, rfl, rfl, (S5.fns.ext y6).at_, szl (by simp), ?_⟩
    have S6 := S5.add y6 t6 hf6 hc6 (.inl rfl)
    generalize hh : upd G6 L _ = HH6
    rw [hh] at S6
    clear hh S5 y6 t6 hf6 hc6
    refine ⟨_, rfl, .inl ⟨rfl, _, SqL.of S6.fns.at_⟩, S6.tabs, fun f7 c7 G7 y7 _ t7 _ hf7 hc7 => ?_⟩
    refine ⟨L, _, _, rfl, rfl, (S6.fns.ext y7).at_, szl (by simp), ?_⟩
    have S7 := S6.add y7 t7 hf7 hc7 (.inl rfl)
    generalize hh : upd G7 L _ = HH7
    rw [hh] at S7
    clear hh S6 y7 t7 hf7 hc7
    refine ⟨_, rfl, .inl ⟨rfl, _, SqL.of S7.fns.at_⟩, S7.tabs, fun f8 c8 G8 y8 _ t8 _ hf8 hc8 => ?_⟩
    refine ⟨L, _, _, rfl, rfl, (S7.fns.ext y8).at_, szl (by simp), ?_⟩
    have S8 := S7.add y8 t8 hf8 hc8 (.inl rfl)
    generalize hh : upd G8 L _ = HH8
    rw [hh] at S8
    clear hh S7 y8 t8 hf8 hc8
    refine ⟨_, rfl, .inl ⟨rfl, _, SqL.of S8.fns.at_⟩, S8.tabs, fun f9 c9 G9 y9 _ t9 _ hf9 hc9 => ?_⟩
    refine ⟨L, _, _, rfl, rfl, (S8.fns.ext y9).at_, szl (by simp), ?_⟩
    have S9 := S8.add y9 t9 hf9 hc9 (.inl rfl)
    generalize hh : upd G9 L _ = HH9
    rw [hh] at S9
    clear hh S8 y9 t9 hf9 hc9
    refine ⟨_, rfl, .inl ⟨rfl, _, SqL.of S9.fns.at_⟩, S9.tabs, fun f10 c10 G10 y10 _ t10 _ hf10 hc10 => ?_⟩
    refine ⟨L, _, _, rfl, rfl, (S9.fns.ext y10).at_, szl (by simp), ?_⟩
    have S10 := S9.add y10 t10 hf10 hc10 (.inl rfl)
    generalize hh : upd G10 L _ = HH10
    rw [hh] at S10
    clear hh S9 y10 t10 hf10 hc10
    refine ⟨_, rfl, .inl ⟨rfl, _, SqL.of S10.fns.at_⟩, S10.tabs, fun f11 c11 G11 y11 _ t11 _ hf11 hc11 => ?_⟩
    refine ⟨L, _, _, rfl, rfl, (S10.fns.ext y11).at_, szl (by simp), ?_⟩
    have S11 := S10.add y11 t11 hf11 hc11 (.inl rfl)
    generalize hh : upd G11 L _ = HH11
    rw [hh] at S11
    clear hh S10 y11 t11 hf11 hc11
    refine ⟨_, rfl, .inl ⟨rfl, _, SqL.of S11.fns.at_⟩, S11.tabs, fun f12 c12 G12 y12 _ t12 _ hf12 hc12 => ?_⟩
    refine ⟨L, _, _, rfl, rfl, (S11.fns.ext y12).at_, szl (by simp), ?_⟩
    have S12 := S11.add y12 t12 hf12 hc12 (.inl rfl)
    generalize hh : upd G12 L _ = HH12
    rw [hh] at S12
    clear hh S11 y12 t12 hf12 hc12
    refine ⟨_, rfl, .inl ⟨rfl, _, SqL.of S12.fns.at_⟩, S12.tabs, fun f13 c13 G13 y13 _ t13 _ hf13 hc13 => ?_⟩
    refine ⟨L, _, _, rfl, rfl, (S12.fns.ext y13).at_, szl (by simp), ?_⟩
    have S13 := S12.add y13 t13 hf13 hc13 (.inl rfl)
    generalize hh : upd G13 L _ = HH13
    rw [hh] at S13
    clear hh S12 y13 t13 hf13 hc13
    refine ⟨V.ref L, rfl, [("_law_wood_here", .ref p), ("_law_hand", .int h), ("_law_other", .int o)], fun q hq => ?_, fun hn hj => k L _ _ _ ⟨S13.ext, S13.tabs, S13.fns, hn, fun q hq => ?_, fun x W px nh t1 mk q hq => ?_⟩⟩
    · simp only [List.mem_cons, List.not_mem_nil, or_false] at hq
      rcases hq with rfl | rfl | rfl
      · exact ⟨rfl, 0, rfl, rfl⟩
      · exact ⟨rfl, 1, rfl, rfl⟩
      · exact ⟨rfl, 2, rfl, rfl⟩
    · clear S13
      simp only [List.mem_append, List.mem_singleton] at hq
      rcases hq with (((((((((((rfl | rfl) | rfl) | rfl) | rfl) | rfl) | rfl) | rfl) | rfl) | rfl) | rfl) | rfl) | rfl <;> exact cl_of3 hj (fun x hx => cell_has hx) rfl rfl rfl rfl (by decide +kernel)
    · clear S13 hn hj k
      subst px
      have h0 : hOk W 0 := ⟨by omega, by omega⟩
      simp only [List.mem_append, List.mem_singleton] at hq
      rcases hq with (((((((((((rfl | rfl) | rfl) | rfl) | rfl) | rfl) | rfl) | rfl) | rfl) | rfl) | rfl) | rfl) | rfl
      · refine ⟨_, lok_of (k := 7) (lsc_of (LamX.lamS_by (sc := defScope s_l_works) (by decide +kernel))) (lbinds0 rfl fun _ _ _ => rfl) (fun A outer s H E hr => by exact (pe_meth (pv 0) T.cl_Wood T.m_call (ok_Wood_call T) (hr.mono (by decide)) T.b_Wood_call .nil (passes_call (takes_of rfl rfl rfl rfl) (fun _ _ _ _ h => h)) (pa_cons (pv 1) (pa_cons (pe_op op_rep (pe_lst (pa_cons pe_int pa_nil)) pe_int) pa_nil)))), fun H' E' Q' hI he => ?_⟩
        obtain ⟨A, I⟩ := hI
        refine ⟨_, rfl, x.p, _, _, rfl, I.sub _ _ I.wa.ins, wf_no (by decide +kernel), _, rfl, by show 1 ≤ sizeLine; exact sz (by omega), fun l nl => ?_⟩
        refine ⟨l, 9, [V.int 1], rfl, rfl, upd_same, by decide, by decide, by show 1 * 9 ≤ sizeLine; exact sz (by omega), fun l2 nl2 => ?_⟩
        have e2 := (same_new nl (.lst [V.int 1])).trans (same_new nl2 (.lst (List.replicate (9 : Int).toNat [V.int 1]).flatten))
        refine ⟨A, x, W, h, l2, [1, 1, 1, 1, 1, 1, 1, 1, 1], rfl, I.same e2, SqL.of (upd_same.trans rfl), ?_⟩
        rw [show doCall W h [1, 1, 1, 1, 1, 1, 1, 1, 1] = .error .hand from if_pos nh]
        exact fun H2 e3 => he _ (e2.trans e3)
      · refine ⟨_, lok_of (k := 7) (lsc_of (LamX.lamS_by (sc := defScope s_l_works) (by decide +kernel))) (lbinds0 rfl fun _ _ _ => rfl) (fun A outer s H E hr => by exact (pe_meth (pv 0) T.cl_Wood T.m_back (ok_Wood_back T) (hr.mono (by decide)) T.b_Wood_back .nil (passes_call (takes_of rfl rfl rfl rfl) (fun _ _ _ _ h => h)) (pa_cons (pv 1) pa_nil))), fun H' E' Q' hI he => ?_⟩
        obtain ⟨A, I⟩ := hI
        exact ⟨_, rfl, x.p, _, _, rfl, I.sub _ _ I.wa.ins, wf_no (by decide +kernel), _, rfl, A, x, W, h, rfl, I, by rw [show doBack W h = .error .hand from if_pos nh]; exact he⟩
      · refine ⟨_, lok_of (k := 7) (lsc_of (LamX.lamS_by (sc := defScope s_l_works) (by decide +kernel))) (lbinds0 rfl fun _ _ _ => rfl) (fun A outer s H E hr => by exact (pe_meth (pv 0) T.cl_Wood T.m_branch (ok_Wood_branch T) (hr.mono (by decide)) T.b_Wood_branch .nil (passes_call (takes_of rfl rfl rfl rfl) (fun _ _ _ _ h => h)) (pa_cons (pv 1) (pa_cons pe_int pa_nil)))), fun H' E' Q' hI he => ?_⟩
        obtain ⟨A, I⟩ := hI
        exact ⟨_, rfl, x.p, _, _, rfl, I.sub _ _ I.wa.ins, wf_no (by decide +kernel), _, rfl, A, x, W, h, 0, rfl, I, by rw [show doBranch W h 0 = .error .hand from if_pos nh]; exact he⟩
      · refine ⟨_, lok_of (k := 7) (lsc_of (LamX.lamS_by (sc := defScope s_l_works) (by decide +kernel))) (lbinds0 rfl fun _ _ _ => rfl) (fun A outer s H E hr => by exact (pe_meth (pv 0) T.cl_Wood T.m_branch (ok_Wood_branch T) (hr.mono (by decide)) T.b_Wood_branch .nil (passes_call (takes_of rfl rfl rfl rfl) (fun _ _ _ _ h => h)) (pa_cons pe_int (pa_cons (pv 1) pa_nil)))), fun H' E' Q' hI he => ?_⟩
        obtain ⟨A, I⟩ := hI
        exact ⟨_, rfl, x.p, _, _, rfl, I.sub _ _ I.wa.ins, wf_no (by decide +kernel), _, rfl, A, x, W, 0, h, rfl, I, by rw [show doBranch W 0 h = .error .hand from (if_neg (fun z => z h0)).trans (if_pos nh)]; exact he⟩
      · refine ⟨_, lok_of (k := 7) (lsc_of (LamX.lamS_by (sc := defScope s_l_works) (by decide +kernel))) (lbinds0 rfl fun _ _ _ => rfl) (fun A outer s H E hr => by exact (pe_meth (pv 0) T.cl_Wood T.m_keep (ok_Wood_keep T) (hr.mono (by decide)) T.b_Wood_keep .nil (passes_call (takes_of rfl rfl rfl rfl) (fun _ _ _ _ h => h)) (pa_cons (pv 1) pa_nil))), fun H' E' Q' hI he => ?_⟩
        obtain ⟨A, I⟩ := hI
        exact ⟨_, rfl, x.p, _, _, rfl, I.sub _ _ I.wa.ins, wf_no (by decide +kernel), _, rfl, A, x, W, h, rfl, I, mk, by rw [show doKeep W h = .error .hand from if_pos nh]; exact he⟩
      · refine ⟨_, lok_of (k := 7) (lsc_of (LamX.lamS_by (sc := defScope s_l_works) (by decide +kernel))) (lbinds0 rfl fun _ _ _ => rfl) (fun A outer s H E hr => by exact (pe_meth (pv 0) T.cl_Wood T.m_leap (ok_Wood_leap T) (hr.mono (by decide)) T.b_Wood_leap .nil (passes_call (takes_of rfl rfl rfl rfl) (fun _ _ _ _ h => h)) (pa_cons (pv 1) (pa_cons (pv 2) pa_nil)))), fun H' E' Q' hI he => ?_⟩
        obtain ⟨A, I⟩ := hI
        exact ⟨_, rfl, x.p, _, _, rfl, I.sub _ _ I.wa.ins, wf_no (by decide +kernel), _, rfl, _, rfl, A, x, W, h, o, rfl, I, by rw [show doLeap W h o = .error .hand from if_pos nh]; exact he⟩
      · refine ⟨_, lok_of (k := 7) (lsc_of (LamX.lamS_by (sc := defScope s_l_works) (by decide +kernel))) (lbinds0 rfl fun _ _ _ => rfl) (fun A outer s H E hr => by exact (pe_meth (pv 0) T.cl_Wood T.m_put (ok_Wood_put T) (hr.mono (by decide)) T.b_Wood_put .nil (passes_call (takes_of rfl rfl rfl rfl) (fun _ _ _ _ h => h)) (pa_cons (pv 1) (pa_cons (pv 2) (pa_cons (pv 2) (pa_cons pe_int pa_nil)))))), fun H' E' Q' hI he => ?_⟩
        obtain ⟨A, I⟩ := hI
        exact ⟨_, rfl, x.p, _, _, rfl, I.sub _ _ I.wa.ins, wf_no (by decide +kernel), _, rfl, _, rfl, _, rfl, A, x, W, h, o, o, 0, rfl, I, by rw [show doPut W h o o 0 = .error .hand from by unfold doPut doWay; rw [if_pos nh]]; exact he⟩
      · refine ⟨_, lok_of (k := 7) (lsc_of (LamX.lamS_by (sc := defScope s_l_works) (by decide +kernel))) (lbinds0 rfl fun _ _ _ => rfl) (fun A outer s H E hr => by exact (pe_meth (pv 0) T.cl_Wood T.m_price (ok_Wood_price T) (hr.mono (by decide)) T.b_Wood_price .nil (passes_call (takes_of rfl rfl rfl rfl) (fun _ _ _ _ h => h)) (pa_cons (pv 1) (pa_cons (pv 2) pa_nil)))), fun H' E' Q' hI he => ?_⟩
        obtain ⟨A, I⟩ := hI
        exact ⟨_, rfl, x.p, _, _, rfl, I.sub _ _ I.wa.ins, wf_no (by decide +kernel), _, rfl, _, rfl, A, x, W, h, o, rfl, I, by rw [show doPrice W h o = .error .hand from by unfold doPrice doWay; rw [if_pos nh]]; exact he⟩
      · refine ⟨_, lok_of (k := 7) (lsc_of (LamX.lamS_by (sc := defScope s_l_works) (by decide +kernel))) (lbinds0 rfl fun _ _ _ => rfl) (fun A outer s H E hr => by exact (pe_meth (pv 0) T.cl_Wood T.m_look (ok_Wood_look T) (hr.mono (by decide)) T.b_Wood_look .nil (passes_call (takes_of rfl rfl rfl rfl) (fun _ _ _ _ h => h)) (pa_cons (pv 1) pa_nil))), fun H' E' Q' hI he => ?_⟩
        obtain ⟨A, I⟩ := hI
        exact ⟨_, rfl, x.p, _, _, rfl, I.sub _ _ I.wa.ins, wf_no (by decide +kernel), _, rfl, A, x, W, h, rfl, I, fun z => absurd z nh, fun _ => he⟩
      · refine ⟨_, lok_of (k := 7) (lsc_of (LamX.lamS_by (sc := defScope s_l_works) (by decide +kernel))) (lbinds0 rfl fun _ _ _ => rfl) (fun A outer s H E hr => by exact (pe_call (ok_held T) (hr.mono (by decide)) rfl T.g_held T.F_held.kp T.b_held .nil (passes_call (takes_of rfl rfl rfl rfl) (fun _ _ _ _ h => h)) (pa_cons (pv 0) (pa_cons (pe_lst (pa_cons pe_int (pa_cons (pv 1) pa_nil))) pa_nil)))), fun H' E' Q' hI he => ?_⟩
        obtain ⟨A, I⟩ := hI
        exact ⟨_, rfl, _, rfl, by show 2 ≤ sizeLine; exact sz (by omega), fun l nl => ⟨A, x, W, l, [0, h], rfl, I.same (same_new nl _), SqL.of upd_same, by show 2 ≤ 1000; omega, fun z => absurd (z h (by simp)) nh, fun _ H2 e2 => he _ ((same_new nl _).trans e2)⟩⟩
      · refine ⟨_, lok_of (k := 7) (lsc_of (LamX.lamS_by (sc := defScope s_l_works) (by decide +kernel))) (lbinds0 rfl fun _ _ _ => rfl) (fun A outer s H E hr => by exact (pe_call (ok_common T) (hr.mono (by decide)) rfl T.g_common T.F_common.kp T.b_common .nil (passes_call (takes_of rfl rfl rfl rfl) (fun _ _ _ _ h => h)) (pa_cons (pv 0) (pa_cons pe_int (pa_cons (pv 1) pa_nil))))), fun H' E' Q' hI he => ?_⟩
        obtain ⟨A, I⟩ := hI
        exact ⟨_, rfl, _, rfl, A, x, W, 0, h, rfl, I, fun _ z => absurd z nh, fun _ => he⟩
      · refine ⟨_, lok_of (k := 7) (lsc_of (LamX.lamS_by (sc := defScope s_l_works) (by decide +kernel))) (lbinds0 rfl fun _ _ _ => rfl) (fun A outer s H E hr => by exact (pe_call (ok_common T) (hr.mono (by decide)) rfl T.g_common T.F_common.kp T.b_common .nil (passes_call (takes_of rfl rfl rfl rfl) (fun _ _ _ _ h => h)) (pa_cons (pv 0) (pa_cons (pv 1) (pa_cons pe_int pa_nil))))), fun H' E' Q' hI he => ?_⟩
        obtain ⟨A, I⟩ := hI
        exact ⟨_, rfl, _, rfl, A, x, W, h, 0, rfl, I, fun z _ => absurd z nh, fun _ => he⟩
      · refine ⟨_, lok_of (k := 7) (lsc_of (LamX.lamS_by (sc := defScope s_l_works) (by decide +kernel))) (lbinds0 rfl fun _ _ _ => rfl) (fun A outer s H E hr => by exact (pe_call (ok_alone T) (hr.mono (by decide)) rfl T.g_alone T.F_alone.kp T.b_alone .nil (passes_call (takes_of rfl rfl rfl rfl) (fun _ _ _ _ h => h)) (pa_cons (pv 0) (pa_cons (pv 1) pa_nil)))), fun H' E' Q' hI he => ?_⟩
        obtain ⟨A, I⟩ := hI
        exact ⟨_, rfl, _, rfl, A, x, W, h, rfl, I, fun z => absurd z nh, fun _ => he⟩
end
end Sk
end
section
/-! SwC4: what the law k01 leans on: a list beside the dice, kept lambdas all of which refuse, what is none. -/
namespace Sk
open PySem PySem.Spec PyProof.Rows L2 SW LamL
/-- what a deed tells, off the part A -/
def DueAt (A H : Hp) (v : V) : Res → Prop
  | .int n => v = .int n
  | .non => v = .non
  | .lst zs => ∃ l, v = .ref l ∧ H l = some (.lst (zs.map V.int)) ∧ A l = none
theorem res_small {W W' : Wd} {De : Deed} {zs : List Int} (F : WFW W) (S : Small (nl W)) (e : doDeed W De = .ok (.lst zs, W')) : zs.length ≤ 3 := by
  obtain ⟨dd, _, _⟩ := did_ok F e
  cases De with
  | back h =>
    obtain ⟨vs, t, e1, e2⟩ := dd.back h rfl
    cases e1
    exact small_pile S h _ (by rw [e2]; exact List.mem_cons_self ..)
  | call h vs =>
    simp only [doDeed] at e
    cases q : doCall W h vs with
    | error x => rw [q] at e; cases e
    | ok r => rw [q] at e; cases (Prod.mk.inj (Except.ok.inj e)).1
  | put h d s v =>
    simp only [doDeed] at e
    cases q : doPut W h d s v with
    | error x => rw [q] at e; cases e
    | ok r => rw [q] at e; cases (Prod.mk.inj (Except.ok.inj e)).1
  | branch h k =>
    simp only [doDeed] at e
    cases q : doBranch W h k with
    | error x => rw [q] at e; cases e
    | ok r => rw [q] at e; cases (Prod.mk.inj (Except.ok.inj e)).1
  | keep h =>
    simp only [doDeed] at e
    cases q : doKeep W h with
    | error x => rw [q] at e; cases e
    | ok r => rw [q] at e; cases (Prod.mk.inj (Except.ok.inj e)).1
  | leap h p =>
    simp only [doDeed] at e
    cases q : doLeap W h p with
    | error x => rw [q] at e; cases e
    | ok r => rw [q] at e; cases (Prod.mk.inj (Except.ok.inj e)).1
  | forget p =>
    simp only [doDeed] at e
    cases q : doForget W p with
    | error x => rw [q] at e; cases e
    | ok r => rw [q] at e; cases (Prod.mk.inj (Except.ok.inj e)).1
section
variable {K : PySem.W.Frag} {T : List (Addr × Str)} {H A B C : Hp} {d a far : Addr} {ns : List Int}
theorem far_join {xs : List V} (Wl : Wld T H A B C) (Di : Die K C d a ns) (hf : H far = some (.lst xs)) (nA : A far = none) (nB : B far = none) : ∃ C', Wld T H A B C' ∧ Die K C' d a ns ∧ C' far = some (.lst xs) := by
  cases q : C far with
  | none => exact ⟨_, Wl.join hf nA nB (fun _ z => by cases z) (fun _ z => by cases z), Di.upd Wl.sC (.inr q), upd_same⟩
  | some o =>
    have e := (Wl.sC _ _ q).symm.trans hf
    cases e
    exact ⟨C, Wl, Di, q⟩
theorem drawF {i m r : Int} {o : HO} (Wl : Wld T H A B C) (Di : Die K C d a ns) (hf : C far = some o) (n : far ≠ d) (i0 : 0 ≤ i) : ∃ C', Wld T (upd H d (.lst (diceL a i m r))) A B C' ∧ Die K C' d a ns ∧ C' far = some o := by
  obtain ⟨D9, _, k9⟩ := draw (Di.dH Wl.sC) (Di.sH Wl.sC) (m := m) (r := r) i0
  obtain ⟨C9, Wl9, Di9, hC9⟩ := Wl.drawnK Di k9 D9
  exact ⟨C9, Wl9, Di9, (hC9 far n).trans hf⟩
end
/-! ### lists of kept lambdas -/
theorem fns_of {H : Hp} {L : Addr} {xs : List V} {fs : List (Addr × LF)} (nL : H L = none) (e : (fs.map fun q => V.ref q.1) = xs) (h : ∀ q ∈ fs, H q.1 = some (LnO q.1 q.2) ∧ H q.2.c = some (LamX.CodeO q.2.c q.2.qual) ∧ DfOk q.2 H) : Fns (upd H L (.lst xs)) L fs := by
  subst e
  refine ⟨upd_same, fun q hq => ?_⟩
  obtain ⟨h1, h2, h3⟩ := h q hq
  exact ⟨(upd_ne (ne_of_none h1 nL)).trans h1, (upd_ne (ne_of_none h2 nL)).trans h2, dfOk_up h3 fun b x z => (upd_ne (ne_of_none z nL)).trans z⟩
theorem made_by {X : Cx} {f : Addr} {params : Arguments} {body : Expr} {scope sc : Scope} {c' : Addr} {df : Value} (hs : X.env.scope = sc) (h : (scope.names.all fun y => !decide (y.2 = .free) || decide (sc.names.lookup y.1 = some .cell)) = true) : Made X (f, LF.of X params body scope c' df) := by
  refine ⟨params, body, scope, c', df, rfl, fun y hy e => ?_⟩
  have := List.all_eq_true.mp h y hy
  rw [e] at this
  rw [hs]
  simpa using this
/-- a lambda's object, code object and default stand -/
def LamAt (H : Hp) (f : Addr) (F : LF) : Prop := H f = some (LnO f F) ∧ H F.c = some (LamX.CodeO F.c F.qual) ∧ DfOk F H
theorem LamAt.ext {H H' : Hp} {f : Addr} {F : LF} (h : LamAt H f F) (e : LamX.ExtN H H') : LamAt H' f F := ⟨e _ _ h.1 lnO_ne, e _ _ h.2.1 LamX.codeO_ne, dfOk_up h.2.2 fun b x z => e _ _ z tupO_ne⟩
abbrev lnF {H : Hp} {f : Addr} {F : LF} (_ : LamAt H f F) : LF := F
/-- what a comprehension over kept lambdas is to be given -/
def KeptN (X : Cx) (P : Program) (w : World) (K : PySem.W.Frag) (mg : Str → Option Value) (base : Heap) (vs : List Nat) (wd : Str) (i k : Nat) (σ : L2.St) (H0 H1 : Hp) (L D : Addr) (te : TE) : Prop :=
    ∃ (cs : List Addr) (Φ : Phi), CellsIn cs H1 ∧
      (∀ pins s, Inv X pins σ (upd H1 D (.lst [])) s → ∀ F N σ', Φ F N σ' → CellsS F.cl N σ' s.heap (er cs (upd H1 D (.lst [])))) ∧ (∀ F N σ', Φ F N σ' → ∀ y c, F.cl.lookup y = some c → (∃ x, X.env.cells.lookup x = some c) ∨ c ∈ cs) ∧
      ∃ W : Nat → Nat → Hp → Prop, (∃ m, W 0 m (er cs (upd H1 D (.lst [])))) ∧ ∀ i' m H, W i' m H →
      ((Itl K L).stop i' H ∧ (Same H0 H ∧ H D = some (.lst []))) ∨ ((Itl K L).go i' H ∧ ∃ Nx : Hp → Prop, (∀ H', Nx H' → ∃ m', m' < m ∧ W (i' + 1) m' H') ∧ ∀ x H', (Itl K L).yld i' H x H' → gName i x (wipe σ vs) H' fun σ2 H2 => wipe σ2 vs = wipe σ vs ∧ tTest (tOp rNe (tToldW P w K mg base k i (TToldX K) Φ) (tC (.str wd))) σ2 H2 fun b H3 =>
        if b = true then te σ2 H3 fun y H4 => ∃ acc, H4 D = some (.lst acc) ∧ acc.length < sizeLine ∧ Nx (upd H4 D (.lst (acc ++ [y]))) else Nx H3)
theorem keptN_mine {X : Cx} {P : Program} {w : World} {K : PySem.W.Frag} {mg : Str → Option Value} {base : Heap} (p1 : X.prog = P) (p2 : X.w = w) (p3 : X.K = K) (p4 : X.mg = mg) (p5 : X.base = base) {vs : List Nat} {wd : Str} {i : Nat} {en : E6} (p6 : [i] = vs) (p7 : en6 en = wd) {N : List Str} (p8 : X.N = N) {σ : L2.St} {H1 : Hp} {L D : Addr} {fs : List (Addr × LF)} {k : Nat} {te : TE} {I : Hp → Prop}
    (hX : ∀ x, X.env.scope.names.lookup x = some .cell → ∃ c, X.env.cells.lookup x = some c) (Fe : Fns H1 L fs) (nD : H1 D = none) (hi : i < σ.length) (hM : ∀ q ∈ fs, Made X q) (hR : ∀ q ∈ fs, Refs P w K mg base k en I N σ q) (hI : ∀ H', Same H1 H' → I H') : KeptN X P w K mg base vs wd i k σ H1 H1 L D te := by
  subst p8
  obtain ⟨cs, Φ, k1, k2, k3, W, k4, k5⟩ := kept_mineK (te := te) (Q := fun v H' => v = .ref D ∧ Same H1 H' ∧ H' D = some (.lst [])) p1 p2 p3 p4 p5 p6 p7 hX Fe nD hi hM hR hI (fun H' e h => ⟨rfl, e, h⟩)
  refine ⟨cs, Φ, k1, k2, k3, W, k4, fun i' m H hw => ?_⟩
  rcases k5 i' m H hw with ⟨a, _, b⟩ | z
  · exact .inl ⟨a, b⟩
  · exact .inr z
theorem look_mem {α : Type} : ∀ {l : List (Addr × α)} {c : Addr}, c ∈ l.map (·.1) → ∃ v, l.lookup c = some v
  | [], c, h => by cases h
  | (b, v) :: l, c, h => by
    rw [List.lookup_cons]
    cases e : c == b with
    | true => exact ⟨v, rfl⟩
    | false =>
      rcases List.mem_cons.mp h with z | z
      · have z : c = b := z
        rw [z] at e; simp at e
      · exact look_mem z
theorem mem_look {α : Type} {l : List (Addr × α)} {c : Addr} {v : α} (h : l.lookup c = some v) : c ∈ l.map (·.1) := List.mem_map.mpr ⟨(c, v), mem_lookN h, rfl⟩
theorem er_lay {M : List (Addr × V)} {H : Hp} (h : ∀ c v, M.lookup c = some v → H c = none) : er (M.map (·.1)) (layC M H) = H := by
  funext b
  unfold er
  by_cases z : b ∈ M.map (·.1)
  · rw [if_pos z]
    obtain ⟨v, e⟩ := look_mem z
    exact (h _ _ e).symm
  · rw [if_neg z]
    refine layC_out ?_
    cases q : M.lookup b with
    | none => rfl
    | some v => exact absurd (mem_look q) z
theorem lay_up {M : List (Addr × V)} {H : Hp} (h : ∀ c v, M.lookup c = some v → H c = none) {b : Addr} {o : HO} (e : H b = some o) : layC M H b = some o := by
  refine (layC_out ?_).trans e
  cases q : M.lookup b with
  | none => rfl
  | some v => rw [h _ _ q] at e; cases e
theorem keptN_works {X : Cx} {P : Program} {w : World} {K : PySem.W.Frag} {mg : Str → Option Value} {base : Heap} (p1 : X.prog = P) (p2 : X.w = w) (p3 : X.K = K) (p4 : X.mg = mg) (p5 : X.base = base) {vs : List Nat} {wd : Str} {i : Nat} (p6 : [i] = vs) (p7 : en6 .hand = wd) {σ : L2.St} {H0 H' A : Hp} {L D p : Addr} {h o : Int} {TT : List (Addr × Str)} {fs : List (Addr × LF)} {M : List (Addr × V)} {te : TE} {x : Ad} {W : Wd}
    (OK : WorksOk P w K mg base TT p h o H0 H' L fs M) (px : p = x.p) (nh : ¬ hOk W h) (t1 : 1 ≤ W.tops.length) (mk : W.marks.length ≤ 100000) (hA : At K A H' x W) (nD : layC M H' D = none) (hi : i < σ.length) : KeptN X P w K mg base vs wd i 8 σ H' (layC M H') L D te := by
  subst p1 p2 p3 p4 p5 p6 p7
  have eE : er (M.map (·.1)) (layC M H') = H' := er_lay OK.none
  have nDc : D ∉ M.map (·.1) := fun z => by
    obtain ⟨v, e⟩ := look_mem z
    rw [layC_in e] at nD; cases nD
  have cell : ∀ {pins : List (Addr × Obj)} {s : Shared}, Inv X pins σ (upd (layC M H') D (.lst [])) s → ∀ {c : Addr} {v : V}, M.lookup c = some v → ∃ u, L2.RelV v u ∧ s.heap.IsCell c (some u) := fun {pins s} J {c v} e => by
    have e2 : upd (layC M H') D (.lst []) c = some (CellO c v) := (upd_ne (fun z : c = D => nDc (by rw [← z]; exact mem_look e))).trans (layC_in e)
    exact cellO_at J.hok e2
  have hcell : ∀ pins s, Inv X pins σ (upd (layC M H') D (.lst [])) s → ∀ q ∈ fs, CellsS q.2.cl wkN (wkS p h o L) s.heap (er (M.map (·.1)) (upd (layC M H') D (.lst []))) := fun pins s J q hq => by
    obtain ⟨c1, c2⟩ := OK.cl q hq
    refine ⟨rfl, fun y c e => ?_, c2, fun j y v c e1 e2 e3 => ?_⟩
    · obtain ⟨v, hv, _⟩ := c1 y c e
      refine ⟨?_, ?_⟩
      · unfold er
        rw [if_pos (mem_look hv)]
      · obtain ⟨u, _, z⟩ := cell J hv
        exact ⟨_, z⟩
    · obtain ⟨v', hv, lnk⟩ := c1 y c e3
      have := lnk j e1
      rw [e2] at this
      cases this
      exact cell J hv
  have hcl : ∀ q ∈ fs, ∀ y c, q.2.cl.lookup y = some c → (∃ x, X.env.cells.lookup x = some c) ∨ c ∈ M.map (·.1) := fun q hq y c e => by
    obtain ⟨v, hv, _⟩ := (OK.cl q hq).1 y c e
    exact .inr (mem_look hv)
  obtain ⟨cs, Φ, k1, k2, k3, Z, k4, k5⟩ := kept_none (X := X) (σ := σ) (H1 := layC M H') (L := L) (D := D) (fs := fs) (i := i) (k := 8) (en := .hand) (I := fun H => ∃ A, At X.K A H x W) (N0 := wkN) (σ0 := wkS p h o L) (cs := M.map (·.1)) (te := te) (Q := fun v H3 => v = .ref D ∧ Same H' H3 ∧ H3 D = some (.lst []))
    (by rw [eE]; exact OK.fns) nD (fun c hc => by
      obtain ⟨v, e⟩ := look_mem hc
      exact ⟨v, layC_in e⟩) hi hcell hcl (fun q hq => OK.refs x W px nh t1 mk q hq) (fun H3 e => ⟨A, hA.same (by rw [eE] at e; exact e)⟩) (fun H3 e hD => ⟨rfl, by rw [eE] at e; exact e, hD⟩)
  refine ⟨cs, Φ, k1, k2, k3, Z, k4, fun i' m H hw => ?_⟩
  rcases k5 i' m H hw with ⟨a, _, b⟩ | z
  · exact .inl ⟨a, b⟩
  · exact .inr z
/-! ### what is none -/
theorem no_mark {W : Wd} (F : WFW W) {p : Int} (h : p < 0 ∨ W.many ≤ p) : lk W.marks p = none := by
  cases q : lk W.marks p with
  | none => rfl
  | some y =>
    have := F.mr p (List.mem_map.mpr ⟨_, lk_mem q, rfl⟩)
    omega
theorem vl_length (fs : Fs) (x : Option Int) : (vl fs x).length = (path fs x).length := by unfold vl; rw [List.length_map]
theorem no_call {W : Wd} {h d : Int} (hk : hOk W h) (n : ¬ (0 ≤ d ∧ d < ((path W.frames (top W h)).length : Int))) : doWay W h d = .error .call := by
  unfold doWay
  rw [if_neg (fun z => z hk), if_pos n]
theorem no_slot {W : Wd} {h s v : Int} {r : Int} {l : List Int} (hk : hOk W h) (e : path W.frames (top W h) = r :: l) (n : ¬ (0 ≤ s ∧ s < ((sl W.frames r).length : Int))) : doPut W h 0 s v = .error .slot := by
  unfold doPut doWay
  rw [if_neg (fun z => z hk), e]
  rw [if_neg (fun z => z ⟨by omega, by simp only [List.length_cons]; omega⟩)]
  have e2 : ((r :: l).take ((0 : Int).toNat + 1)).getD (0 : Int).toNat 0 = r := rfl
  show (if ¬ (0 ≤ s ∧ s < ((sl W.frames (((r :: l).take ((0 : Int).toNat + 1)).getD (0 : Int).toNat 0)).length : Int)) then Except.error Er.slot else _) = _
  rw [e2, if_pos n]
theorem no_room4 {W : Wd} {h : Int} {vs : List Int} (hk : hOk W h) (n : 3 < vs.length) : doCall W h vs = .error .slot := by
  unfold doCall
  rw [if_neg (fun z => z hk), if_pos n]
theorem rep_ints (n : Nat) : (List.replicate n [V.int 1]).flatten = (List.replicate n (1 : Int)).map V.int := by
  induction n with
  | zero => rfl
  | succ n ih => rw [List.replicate_succ, List.flatten_cons, ih, List.replicate_succ]; rfl
theorem small_top {W : Wd} (S : Small (nl W)) {h : Int} (hk : hOk W h) {r : Int} {l : List Int} (e : path W.frames (top W h) = r :: l) : (sl W.frames r).length ≤ 3 := by
  refine S.1 (vl W.frames (top W h)) (List.mem_map.mpr ⟨top W h, top_mem hk, rfl⟩) _ ?_
  unfold vl
  rw [e]
  exact List.mem_cons_self
theorem far_at {m v : Int} (m1 : 1 ≤ m) (m6 : m ≤ 1000000) (h0 : 0 ≤ v) (h2 : v < 2) : ∃ x : Int, atI [V.int 0, V.int m] v = some (V.int x) ∧ 0 ≤ x ∧ x ≤ 1000000 := by
  have : v = 0 ∨ v = 1 := by omega
  rcases this with z | z
  · subst z; exact ⟨0, rfl, by omega, by omega⟩
  · subst z; exact ⟨m, rfl, by omega, by omega⟩
theorem of_three {a b c v : Int} (h0 : 0 ≤ v) (h3 : v < 3) : ∃ x : Int, atI [V.int a, V.int b, V.int c] v = some (V.int x) ∧ (x = a ∨ x = b ∨ x = c) := by
  have : v = 0 ∨ v = 1 ∨ v = 2 := by omega
  rcases this with z | z | z
  · subst z; exact ⟨a, rfl, .inl rfl⟩
  · subst z; exact ⟨b, rfl, .inr (.inl rfl)⟩
  · subst z; exact ⟨c, rfl, .inr (.inr rfl)⟩
end Sk
end
section
/-! SwL5: the law k01 (in work). -/
namespace Sk
open PySem PySem.Spec PyProof.Rows L2 SW LamL
/-- the tables of the three defs that make lambdas -/
def TT3 (K : PySem.W.Frag) : List (Addr × Str) := [((He.cT K ("law", none)).2, qLam), ((He.cT K ("_law_counts", none)).2, qLamC), ((He.cT K ("_law_works", none)).2, qLamW)]
def spLaw1 (K : PySem.W.Frag) (TT : List (Addr × Str)) : Sp := fun vs H Q _ => ∃ (a : Addr) (ns : List Int), vs = [.ref a] ∧ SqL K H a (ns.map V.int) ∧ ns.length ≤ 63 ∧ LamX.Tabs TT H ∧ ∀ H', Q (.bl true) H'
theorem tt_apart {K : PySem.W.Frag} {w : World} (TC : TxtB K w) : (∀ p ∈ TT3 K, p.1 = (He.cT K ("law", none)).2 → p.2 = qLam) ∧ (∀ p ∈ TT3 K, p.1 = (He.cT K ("_law_counts", none)).2 → p.2 = qLamC) ∧ (∀ p ∈ TT3 K, p.1 = (He.cT K ("_law_works", none)).2 → p.2 = qLamW) := by
  have t := TC.tn
  unfold tnB at t
  simp only [Bool.and_eq_true, decide_eq_true_eq] at t
  obtain ⟨⟨a, b⟩, c⟩ := t
  unfold TT3
  refine ⟨fun p hp e => ?_, fun p hp e => ?_, fun p hp e => ?_⟩ <;> simp only [List.mem_cons, List.not_mem_nil, or_false] at hp <;> rcases hp with rfl | rfl | rfl
  · rfl
  · exact absurd e b
  · exact absurd e c
  · exact absurd e.symm b
  · rfl
  · exact absurd e.symm a
  · exact absurd e.symm c
  · exact absurd e a
  · rfl
theorem KpT.sq {K : PySem.W.Frag} {H H' : Hp} {d a : Addr} {xs : List V} (k : KpT d H H') (h : SqL K H a xs) (n : a ≠ d) : SqL K H' a xs := by
  rcases h with (h | ⟨o, h⟩) | h
  · exact .inl (.inl (k a _ n (fun _ z => by cases z) h))
  · exact .inl (.inr ⟨o, k a _ n (fun _ z => by cases z) h⟩)
  · exact .inr h
abbrev lawN : List Str := ["_law_script", "_law_far", "_law_hands", "_law_w", "_law_turn", "_law_found", "_law_hand", "_law_deep_here", "_law_works_here", "_law_d", "_law_deed_here", "_law_depth", "_law_mine", "_law_place", "_law_slot", "_law_wood_here", "_law_work"]
abbrev lawX (P : Program) (w : World) (K : PySem.W.Frag) (mg : Str → Option Value) (base : Heap) (c : Addr) (A : Around) (outer : List Env) (s : Shared) (H : Hp) (E : XK) : Cx := (cxOf CX0 P w K mg base lawN "law" (defScope s_law) (aG K "law") (Value.ref c) A outer s H E).nox
/-- what stands between the turns -/
def AtD1 (K : PySem.W.Frag) (a d far : Addr) (ns : List Int) (hv m : Int) (i : Nat) (σ : L2.St) (H : Hp) : Prop := ∃ (u4 u5 u10 : Option V) (A B C : Hp) (x : Ad) (y : Mx) (W : Wd), σ = [some (.ref a), some (.ref far), some (.int hv), some (.ref y.w), u4, u5, none, none, none, some (.ref d), u10, none, none, none, none, some (.ref x.p), none] ∧ Wld (TT3 K) H A B C ∧ WA K A x W ∧ WFW W ∧ MA B y (mw W) ∧ Die K C d a ns ∧ C far = some (.lst [.int 0, .int m]) ∧ (W.tops.length : Int) = hv ∧ W.marks.length ≤ i ∧ W.many ≤ (i : Int) ∧ i ≤ 200 ∧ Small (nl W)
section
variable {P : Program} {w : World} {K : PySem.W.Frag} {mg : Str → Option Value} {base : Heap}
theorem ok_law (T : Txt K mg) (TC : TxtB K w) (TB0 : LamX.TabB base mg (He.cT K ("law", none)).1 (He.cT K ("law", none)).2) (TB1 : LamX.TabB base mg (He.cT K ("_law_counts", none)).1 (He.cT K ("_law_counts", none)).2) (TB2 : LamX.TabB base mg (He.cT K ("_law_works", none)).1 (He.cT K ("_law_works", none)).2) :
    FnOk P w K mg base CX0 12 (aG K "law") (fdOf K (aG K "law")) ["_law_script"] (spLaw1 K (TT3 K)) := by
  obtain ⟨oc, od, dV, kV, doc, pm, an, cdv, ct, osl, e, lk, hcd, _, _⟩ := T.F_law.ex
  obtain ⟨oc2, od2, dV2, kV2, doc2, pm2, an2, cdv2, ct2, osl2, e2, lk2, hcT, _, _⟩ := T.F_l_told.ex
  obtain ⟨c, rfl⟩ := He.codeIn_ref hcd
  have bT := T.b_l_told
  rw [e2] at bT
  have lkT := lk2
  rw [e2] at lkT
  have ec : He.codeOf K ("law", none) = c := He.codeOf_eq lk (by rw [e])
  obtain ⟨hu0, hu1, hu2⟩ := tt_apart TC
  have hm1 : ((He.cT K ("_law_counts", none)).2, qLamC) ∈ TT3 K := by unfold TT3; simp
  have hm2 : ((He.cT K ("_law_works", none)).2, qLamW) ∈ TT3 K := by unfold TT3; simp
  have hmT : ((He.cT K ("law", none)).2, qLam) ∈ TT3 K := by unfold TT3; simp
  have huT := hu0
  have okC : FnOk P w K mg base CX0 11 (aG K "_law_counts") (fdOf K (aG K "_law_counts")) ["_law_d", "_law_far"] (spCounts K (TT3 K)) := ok_l_counts T TC TB1 hm1 hu1
  have okW : FnOk P w K mg base CX0 10 (aG K "_law_works") (fdOf K (aG K "_law_works")) ["_law_wood_here", "_law_hand", "_law_other"] (spWorks P w K mg base (TT3 K)) := ok_l_works T TB2 hm2 hu2
  have TB : LamX.TabB base mg c (He.cT K ("law", none)).2 := by rw [← ec]; exact TB0
  rw [e] at lk ⊢
  refine fn_of lk hcd sc_law (fun vs H Q E h => ?_) (fun Ar outer sh Hs vs Q E hr h => ?_)
  · obtain ⟨_, _, rfl, _⟩ := h; rfl
  · obtain ⟨a, ns, rfl, hs, hl, htb, k⟩ := h
    refine ⟨_, PSs.nox (pss_cons (ps_set (i := 9) sc_law.nd rfl (Or.inr rfl) (pe_call (ok_l_dice T) (hr.mono (by decide)) rfl T.g__law_dice T.F_l_dice.kp T.b_l_dice .nil pass0 (pa_cons (pv 0) pa_nil))) (pss_cons (ps_set (i := 1) sc_law.nd rfl (Or.inl rfl) (pe_lst (pa_cons pe_int (pa_cons (pe_op op_add pe_int (pe_call (ok_l_next T) (hr.mono (by decide)) rfl T.g__law_next T.F_l_next.kp T.b_l_next .nil pass0 (pa_cons (pv 9) (pa_cons (pe_op op_pow pe_int pe_int) pa_nil)))) pa_nil)))) (pss_cons (ps_if (pt_not (pt_val (pe_call okC (hr.mono (by decide)) rfl T.g__law_counts T.F_l_counts.kp T.b_l_counts .nil pass0 (pa_cons (pv 9) (pa_cons (pv 1) pa_nil))))) (pss_one (ps_ret pe_bl)) pss_nil) (pss_cons (ps_set (i := 2) sc_law.nd rfl (Or.inl rfl) (pe_op op_add pe_int (pe_call (ok_l_next T) (hr.mono (by decide)) rfl T.g__law_next T.F_l_next.kp T.b_l_next .nil pass0 (pa_cons (pv 9) (pa_cons pe_int pa_nil))))) (pss_cons (ps_set (i := 15) sc_law.nd rfl (Or.inr rfl) (pe_make T.mk_Wood (ok_Wood_init T) (hr.mono (by decide)) rfl T.g_Wood T.b_Wood_init .nil passL (pa_cons (pv 2) (pa_cons pe_int pa_nil)))) (pss_cons (ps_set (i := 3) sc_law.nd rfl (Or.inl rfl) (pe_call (ok_l_wood T) (hr.mono (by decide)) rfl T.g__law_wood T.F_l_wood.kp T.b_l_wood .nil pass0 (pa_cons (pv 2) (pa_cons pe_int pa_nil)))) (pss_cons (ps_for PassesOwn.never rfl (pi_range1 rfl T.n_range (pa_cons (pe_call (ok_l_next T) (hr.mono (by decide)) rfl T.g__law_next T.F_l_next.kp T.b_l_next .nil pass0 (pa_cons (pv 9) (pa_cons pe_int pa_nil))) pa_nil)) (pg_name (i := 4) sc_law.nd rfl (Or.inl rfl)) (pss_cons (ps_set (i := 10) sc_law.nd rfl (Or.inr rfl) (pe_call (ok_l_deed T) (hr.mono (by decide)) rfl T.g__law_deed T.F_l_deed.kp T.b_l_deed .nil pass0 (pa_cons (pv 9) (pa_cons (pe_call (ok_l_deep T) (hr.mono (by decide)) rfl T.g__law_deep T.F_l_deep.kp T.b_l_deep .nil pass0 (pa_cons (pv 3) pa_nil)) pa_nil)))) (pss_cons (ps_set (i := 5) sc_law.nd rfl (Or.inl rfl) (LamX.pe_lamcall (k := 6) rfl T.g__law_told T.F_l_told.kp lkT hcT bT sc_l_told rfl (.inl rfl) (told_givesX T rfl rfl) TB rfl hmT huT (hr.mono (by decide)) (LamX.lamS_by (sc := defScope s_law) (by decide +kernel)) rfl (fun _ _ _ _ _ => rfl) (fun _ _ _ _ _ _ _ hr => by exact (pe_call (ok_l_does T) (hr.mono (by decide)) rfl T.g__law_does T.F_l_does.kp T.b_l_does .nil (passes_call (takes_of rfl rfl rfl rfl) (fun _ _ _ _ h => h)) (pa_cons (pv 15) (pa_cons (pv 10) pa_nil)))))) (pss_one (ps_if (pt_not (pt_val (pe_call (ok_l_like T 4) (hr.mono (by decide)) rfl T.g__law_like T.F_l_like.kp T.b_l_like .nil pass0 (pa_cons (pv 5) (pa_cons (pe_call (ok_l_due T) (hr.mono (by decide)) rfl T.g__law_due T.F_l_due.kp T.b_l_due .nil pass0 (pa_cons (pv 3) (pa_cons (pv 10) pa_nil))) pa_nil))))) (pss_one (ps_ret pe_bl)) pss_nil))))) (pss_cons (ps_set (i := 6) sc_law.nd rfl (Or.inl rfl) (pe_ix (ix_listK K rfl) (pe_lst (pa_cons (pe_op op_sub (pe_un un_neg pe_int) (pe_ix (ix_listK K rfl) (pv 1) (pe_call (ok_l_next T) (hr.mono (by decide)) rfl T.g__law_next T.F_l_next.kp T.b_l_next .nil pass0 (pa_cons (pv 9) (pa_cons pe_int pa_nil))) (fun _ _ => rfl))) (pa_cons (pe_op op_add (pv 2) (pe_ix (ix_listK K rfl) (pv 1) (pe_call (ok_l_next T) (hr.mono (by decide)) rfl T.g__law_next T.F_l_next.kp T.b_l_next .nil pass0 (pa_cons (pv 9) (pa_cons pe_int pa_nil))) (fun _ _ => rfl))) pa_nil))) (pe_call (ok_l_next T) (hr.mono (by decide)) rfl T.g__law_next T.F_l_next.kp T.b_l_next .nil pass0 (pa_cons (pv 9) (pa_cons pe_int pa_nil))) (fun _ _ => rfl))) (pss_cons (ps_if (pt_cmpR (op_neDK K rfl hr.units) (LamL.pe_lcF (own := [("_law_work", 16)]) (g := gName 16) rfl sc_law.nd (pi_listK K rfl (pe_call okW (hr.mono (by decide)) rfl T.g__law_works T.F_l_works.kp T.b_l_works .nil pass0 (pa_cons (pv 15) (pa_cons (pv 6) (pa_cons (pe_un un_neg pe_int) pa_nil))))) (blkOk_by (own := [("_law_work", 16)]) (N := ["_law_script", "_law_far", "_law_hands", "_law_w", "_law_turn", "_law_found", "_law_hand", "_law_deep_here", "_law_works_here", "_law_d", "_law_deed_here", "_law_depth", "_law_mine", "_law_place", "_law_slot", "_law_wood_here", "_law_work"]) (sc := (defScope s_law)) (by decide +kernel)) (fun _ _ _ _ _ => pg_name (i := 16) sc_law.nd rfl (Or.inl rfl)) (fun _ _ _ _ _ _ hF => by exact (pts_one (pt_cmpR op_ne (LamL.pe_toldWK (P := P) (w := w) (K := K) (mg := mg) (base := base) rfl rfl rfl rfl rfl (k := 8) (by exact hF) rfl T.g__law_told T.F_l_told.kp lkT hcT bT sc_l_told rfl (.inl rfl) (fun _ => told_givesX T rfl rfl) (hr.mono (by decide)) (i := 16) rfl (.inl rfl)) pe_str (nomark _)))) (fun _ _ _ _ _ => by exact (pv 16))) (pe_lst pa_nil) (nomark _)) (pss_one (ps_ret pe_bl)) pss_nil) (pss_cons (ps_set (i := 12) sc_law.nd rfl (Or.inr rfl) (pe_call (ok_l_next T) (hr.mono (by decide)) rfl T.g__law_next T.F_l_next.kp T.b_l_next .nil pass0 (pa_cons (pv 9) (pa_cons (pv 2) pa_nil)))) (pss_cons (ps_set (i := 7) sc_law.nd rfl (Or.inl rfl) (pe_callB (call_lenK K rfl) rfl T.n_len PySem.boot_len (pa_cons (pe_meth (pv 15) T.cl_Wood T.m_look (ok_Wood_look T) (hr.mono (by decide)) T.b_Wood_look .nil passL (pa_cons (pv 12) pa_nil)) pa_nil))) (pss_cons (ps_set (i := 13) sc_law.nd rfl (Or.inr rfl) (pe_ix (ix_listK K rfl) (pe_lst (pa_cons (pe_un un_neg pe_int) (pa_cons (pe_dget (hu_of hr) (pv 3) pe_str (fun _ _ => rfl)) (pa_cons (pe_op op_add (pe_dget (hu_of hr) (pv 3) pe_str (fun _ _ => rfl)) (pe_ix (ix_listK K rfl) (pv 1) pe_int (fun _ _ => rfl))) pa_nil)))) (pe_call (ok_l_next T) (hr.mono (by decide)) rfl T.g__law_next T.F_l_next.kp T.b_l_next .nil pass0 (pa_cons (pv 9) (pa_cons pe_int pa_nil))) (fun _ _ => rfl))) (pss_cons (ps_set (i := 8) sc_law.nd rfl (Or.inl rfl) (pe_lst (pa_cons (LamL.pe_lam TB rfl hmT huT (LamX.lamS_by (sc := defScope s_law) (by decide +kernel)) rfl) (pa_cons (LamL.pe_lamD (x := "_law_a") TB rfl hmT huT (LamD.lamS1_by (sc := defScope s_law) (by decide +kernel)) rfl rfl) (pa_cons (LamL.pe_lamD (x := "_law_b") TB rfl hmT huT (LamD.lamS1_by (sc := defScope s_law) (by decide +kernel)) rfl rfl) pa_nil))))) (pss_cons (ps_if (pt_cmpR (op_neDK K rfl hr.units) (LamL.pe_lcF (own := [("_law_work", 16)]) (g := gName 16) rfl sc_law.nd (pi_listK K rfl (pv 8)) (blkOk_by (own := [("_law_work", 16)]) (N := ["_law_script", "_law_far", "_law_hands", "_law_w", "_law_turn", "_law_found", "_law_hand", "_law_deep_here", "_law_works_here", "_law_d", "_law_deed_here", "_law_depth", "_law_mine", "_law_place", "_law_slot", "_law_wood_here", "_law_work"]) (sc := (defScope s_law)) (by decide +kernel)) (fun _ _ _ _ _ => pg_name (i := 16) sc_law.nd rfl (Or.inl rfl)) (fun _ _ _ _ _ _ hF => by exact (pts_one (pt_cmpR op_ne (LamL.pe_toldWK (P := P) (w := w) (K := K) (mg := mg) (base := base) rfl rfl rfl rfl rfl (k := 8) (by exact hF) rfl T.g__law_told T.F_l_told.kp lkT hcT bT sc_l_told rfl (.inl rfl) (fun _ => told_givesX T rfl rfl) (hr.mono (by decide)) (i := 16) rfl (.inl rfl)) pe_str (nomark _)))) (fun _ _ _ _ _ => by exact (pv 16))) (pe_lst pa_nil) (nomark _)) (pss_one (ps_ret pe_bl)) pss_nil) (pss_cons (ps_set (i := 11) sc_law.nd rfl (Or.inr rfl) (pe_ix (ix_listK K rfl) (pe_lst (pa_cons (pe_un un_neg pe_int) (pa_cons (pv 7) (pa_cons (pe_op op_add (pv 7) (pe_ix (ix_listK K rfl) (pv 1) pe_int (fun _ _ => rfl))) pa_nil)))) (pe_call (ok_l_next T) (hr.mono (by decide)) rfl T.g__law_next T.F_l_next.kp T.b_l_next .nil pass0 (pa_cons (pv 9) (pa_cons pe_int pa_nil))) (fun _ _ => rfl))) (pss_cons (ps_set (i := 8) sc_law.nd rfl (Or.inl rfl) (pe_lst (pa_cons (LamL.pe_lam TB rfl hmT huT (LamX.lamS_by (sc := defScope s_law) (by decide +kernel)) rfl) (pa_cons (LamL.pe_lamD (x := "_law_a") TB rfl hmT huT (LamD.lamS1_by (sc := defScope s_law) (by decide +kernel)) rfl rfl) pa_nil)))) (pss_cons (ps_if (pt_cmpR (op_neDK K rfl hr.units) (LamL.pe_lcF (own := [("_law_work", 16)]) (g := gName 16) rfl sc_law.nd (pi_listK K rfl (pv 8)) (blkOk_by (own := [("_law_work", 16)]) (N := ["_law_script", "_law_far", "_law_hands", "_law_w", "_law_turn", "_law_found", "_law_hand", "_law_deep_here", "_law_works_here", "_law_d", "_law_deed_here", "_law_depth", "_law_mine", "_law_place", "_law_slot", "_law_wood_here", "_law_work"]) (sc := (defScope s_law)) (by decide +kernel)) (fun _ _ _ _ _ => pg_name (i := 16) sc_law.nd rfl (Or.inl rfl)) (fun _ _ _ _ _ _ hF => by exact (pts_one (pt_cmpR op_ne (LamL.pe_toldWK (P := P) (w := w) (K := K) (mg := mg) (base := base) rfl rfl rfl rfl rfl (k := 8) (by exact hF) rfl T.g__law_told T.F_l_told.kp lkT hcT bT sc_l_told rfl (.inl rfl) (fun _ => told_givesX T rfl rfl) (hr.mono (by decide)) (i := 16) rfl (.inl rfl)) pe_str (nomark _)))) (fun _ _ _ _ _ => by exact (pv 16))) (pe_lst pa_nil) (nomark _)) (pss_one (ps_ret pe_bl)) pss_nil) (pss_cons (ps_if (pt_cmpR op_gt (pv 7) pe_int (nomark _)) (pss_cons (ps_set (i := 14) sc_law.nd rfl (Or.inr rfl) (pe_ix (ix_listK K rfl) (pe_lst (pa_cons (pe_un un_neg pe_int) (pa_cons (pe_callB (call_lenK K rfl) rfl T.n_len PySem.boot_len (pa_cons (pe_ix (ix_listK K rfl) (pe_meth (pv 15) T.cl_Wood T.m_look (ok_Wood_look T) (hr.mono (by decide)) T.b_Wood_look .nil passL (pa_cons (pv 12) pa_nil)) pe_int (fun _ _ => rfl)) pa_nil)) (pa_cons (pe_op op_add pe_int (pe_ix (ix_listK K rfl) (pv 1) pe_int (fun _ _ => rfl))) pa_nil)))) (pe_call (ok_l_next T) (hr.mono (by decide)) rfl T.g__law_next T.F_l_next.kp T.b_l_next .nil pass0 (pa_cons (pv 9) (pa_cons pe_int pa_nil))) (fun _ _ => rfl))) (pss_one (ps_if (pt_cmpR (op_neDK K rfl hr.units) (LamX.pe_lamcall (k := 6) rfl T.g__law_told T.F_l_told.kp lkT hcT bT sc_l_told rfl (.inl rfl) (told_givesX T rfl rfl) TB rfl hmT huT (hr.mono (by decide)) (LamX.lamS_by (sc := defScope s_law) (by decide +kernel)) rfl (fun _ _ _ _ _ => rfl) (fun _ _ _ _ _ _ _ hr => by exact (pe_meth (pv 15) T.cl_Wood T.m_put (ok_Wood_put T) (hr.mono (by decide)) T.b_Wood_put .nil (passes_call (takes_of rfl rfl rfl rfl) (fun _ _ _ _ h => h)) (pa_cons (pv 12) (pa_cons pe_int (pa_cons (pv 14) (pa_cons pe_int pa_nil))))))) pe_str (nomark _)) (pss_one (ps_ret pe_bl)) pss_nil))) pss_nil) (pss_cons (ps_if (pt_cmpR (op_neDK K rfl hr.units) (LamX.pe_lamcall (k := 6) rfl T.g__law_told T.F_l_told.kp lkT hcT bT sc_l_told rfl (.inl rfl) (told_givesX T rfl rfl) TB rfl hmT huT (hr.mono (by decide)) (LamX.lamS_by (sc := defScope s_law) (by decide +kernel)) rfl (fun _ _ _ _ _ => rfl) (fun _ _ _ _ _ _ _ hr => by exact (pe_meth (pv 15) T.cl_Wood T.m_call (ok_Wood_call T) (hr.mono (by decide)) T.b_Wood_call .nil (passes_call (takes_of rfl rfl rfl rfl) (fun _ _ _ _ h => h)) (pa_cons (pv 12) (pa_cons (pe_op op_rep (pe_lst (pa_cons pe_int pa_nil)) (pe_op op_add pe_int (pe_call (ok_l_next T) (hr.mono (by decide)) rfl T.g__law_next T.F_l_next.kp T.b_l_next .nil pass0 (pa_cons (pv 9) (pa_cons pe_int pa_nil))))) pa_nil))))) pe_str (nomark _)) (pss_one (ps_ret pe_bl)) pss_nil) (pss_one (ps_ret (pe_call (ok_l_is_wood T) (hr.mono (by decide)) rfl T.g__law_is_wood T.F_l_is_wood.kp T.b_l_is_wood .nil pass0 (pa_cons (pv 15) (pa_cons (pv 3) pa_nil)))))))))))))))))))))))), ?_⟩
    refine ⟨_, rfl, a, ns, rfl, hs, hl, fun d m nd nda => ?_⟩
    have e0 := same_new nd (.lst (diceL a 0 m 0))
    have D0 : Dice (upd Hs d (.lst (diceL a 0 m 0))) d a := ⟨nda, 0, m, 0, by omega, upd_same⟩
    have hs0 := e0.seq hs
    have t0 := htb.ext e0
    generalize upd Hs d (.lst (diceL a 0 m 0)) = H0 at D0 hs0 t0
    clear e0 nd htb hs
    refine gName_to ?_
    -- far
    refine ⟨_, rfl, _, _, rfl, rfl, ⟨by decide, by decide, by decide⟩, d, a, _, ns, rfl, D0, hs0, ⟨by decide, by decide⟩, fun v1 i1 m1 r1 a1 b1 c1 => ?_⟩
    obtain ⟨D1, hs1, k1⟩ := draw D0 hs0 (m := m1) (r := r1) c1
    have t1 := tabs_kp t0 k1 D0
    generalize upd H0 d (.lst (diceL a i1 m1 r1)) = H1 at D1 hs1 t1
    clear D0 hs0 t0 k1 c1
    refine ⟨_, _, rfl, rfl, by show 2 ≤ sizeLine; exact sz (by omega), fun far nfar => ?_⟩
    have b1' : v1 < 1000000 := b1
    have e2 := same_new nfar (.lst [V.int 0, V.int (1 + v1)])
    have hfar : upd H1 far (.lst [V.int 0, V.int (1 + v1)]) far = some (.lst [V.int 0, V.int (1 + v1)]) := upd_same
    have D2 := dice_new (o := .lst [V.int 0, V.int (1 + v1)]) D1 nfar
    have hs2 := e2.seq hs1
    have t2 := t1.ext e2
    have nfd := dice_there D1 nfar
    generalize upd H1 far (.lst [V.int 0, V.int (1 + v1)]) = H2 at hfar D2 hs2 t2
    clear D1 hs1 t1 e2 nfar
    refine gName_to ?_
    -- the counts
    refine ⟨_, rfl, _, rfl, d, a, far, ns, 1 + v1, rfl, D2, hs2, hfar, nfd, ⟨by omega, by omega⟩, t2, fun H3 D3 k3 t3 => ⟨true, rfl, ifF rfl ?_⟩⟩
    refine next_of ?_
    have hs3 := k3.sq hs2 nda.symm
    have hf3 := k3 _ _ nfd (fun _ z => by cases z) hfar
    clear D2 hs2 hfar t2 k3
    -- the hands
    refine ⟨_, rfl, d, a, 6, ns, rfl, D3, hs3, ⟨by decide, by decide⟩, fun v4 i4 m4 r4 a4 b4 c4 => ?_⟩
    obtain ⟨D4, hs4, k4⟩ := draw D3 hs3 (m := m4) (r := r4) c4
    have t4 := tabs_kp t3 k4 D3
    have hf4 := k4 _ _ nfd hf3
    refine ⟨_, _, rfl, rfl, ?_⟩
    generalize upd H3 d (.lst (diceL a i4 m4 r4)) = H4 at D4 hs4 t4 hf4
    clear D3 hs3 t3 hf3 k4 c4
    show gName 2 (.int (1 + v4)) _ _ _
    obtain ⟨hv, ehv⟩ : ∃ hv : Int, hv = 1 + v4 := ⟨_, rfl⟩
    rw [← ehv]
    have hv1 : 1 ≤ hv := by omega
    have hv6 : hv ≤ 6 := by omega
    clear ehv a4 b4
    refine gName_to ?_
    -- the wood
    refine ⟨_, rfl, fun p0 dx ny ndx ne => ⟨p0, dx, hv, 40, rfl, upd_same, fun _ A1 x H7 hx R7 S7 kp new => ⟨rfl, ?_⟩, fun z => absurd ⟨⟨hv1, hv6⟩, by omega, by omega⟩ z⟩⟩
    obtain ⟨Wd0, _⟩ := wld_made (d := d) (a := a) ny ndx S7 kp new t4
    have S7' := stp_made ny ndx S7 kp new
    have hf7 := S7'.oth _ _ hf4 rfl
    have nAf : A1 far = none := by
      cases q : A1 far with
      | none => rfl
      | some o =>
        have := S7'.new far rfl (by rw [q]; simp)
        rw [hf4] at this; cases this
    have R7p := R7.plain
    have Di0 : Die K (pl (diC H4 d a)) d a ns := (diC_die D4 hs4).plain
    have F0 : WFW (newW hv 40) := newW_wf hv1 hv6 (by omega) (by omega)
    have nAp : pl A1 far = none := by unfold pl; rw [nAf]
    generalize pl A1 = A at Wd0 R7p nAp
    generalize pl (diC H4 d a) = C0 at Wd0 Di0
    clear R7 S7 S7' kp new D4 hs4 t4 ny ndx ne nAf hf4
    subst hx
    obtain ⟨C, Wd1, Di1, hf1⟩ := far_join Wd0 Di0 hf7 nAp rfl
    clear Wd0 Di0 hf7 nAp
    refine gName_to ?_
    obtain ⟨m, em⟩ : ∃ m : Int, m = 1 + v1 := ⟨_, rfl⟩
    rw [← em] at hf1
    have m1 : 1 ≤ m := by omega
    have m6 : m ≤ 1000000 := by omega
    clear em a1 b1 b1'
    -- the own wood
    refine ⟨_, rfl, hv, 40, rfl, ⟨hv1, hv6⟩, fun H8 y s8 R8 => ?_⟩
    have Wd2 := Wd1.stB ((Stp.refl Wd1.sB).grow s8)
    have R8p : MA _ y (mw (newW hv 40)) := R8.plain
    generalize pl (grow (fun _ => none) H7 H8) = B at Wd2 R8p
    clear R8 s8 Wd1
    refine gName_to ?_
    -- how many turns
    refine ⟨_, rfl, d, a, 31, ns, rfl, Di1.dH Wd2.sC, Di1.sH Wd2.sC, ⟨by decide, by decide⟩, fun n9 i9 m9 r9 a9 b9 c9 => ?_⟩
    obtain ⟨C9, Wd9, Di9, hf9⟩ := drawF Wd2 Di1 hf1 nfd (m := m9) (r := r9) c9
    generalize upd H8 d (.lst (diceL a i9 m9 r9)) = H9 at Wd9
    clear Wd2 Di1 hf1 c9
    refine ⟨n9, rfl, by omega, by omega, ?_⟩
    refine for_range (lo := 0) (n := n9.toNat) (AtD1 K a d far ns hv m) ⟨none, none, none, A, B, C9, x, y, newW hv 40, rfl, Wd9, R7p, F0, R8p, Di9, hf9, by show ((List.replicate hv.toNat none).length : Int) = hv; rw [List.length_replicate]; omega, Nat.le_refl _, by show (0 : Int) ≤ _; omega, by omega, small0 hv⟩ ?_ ?_
    · clear Wd9 R7p R8p F0 Di9 hf9
      rintro i σ H hi ⟨u4, u5, u10, A, B, C, x, y, W, rfl, Wl, R, F, R2, Di, hf, ht, hm, hmm, hi9, Sm⟩
      have hi31 : i < 31 := by omega
      have h6 := F.h6
      refine gName_to ?_
      with_reducible refine set_split (fun v H => ∃ (t : Addr) (De : Deed) (C : Hp), v = .ref t ∧ Wld (TT3 K) H A B C ∧ Die K C d a ns ∧ C far = some (.lst [.int 0, .int m]) ∧ DeedAt C t De) (fun v H hI => ?_) (fun Q hQ => ?_)
      · clear Wl Di hf
        obtain ⟨t, De, C, rfl, Wl, Di, hf, hD⟩ := hI
        -- what is found
        with_reducible refine set_split (fun u H => ∃ (A1 : Hp) (x1 : Ad), x1.p = x.p ∧ Wld (TT3 K) H A1 B C ∧ ((∃ er, doDeed W De = .error er ∧ u = .str (ern er) ∧ WA K A1 x1 W) ∨ ∃ r W1, doDeed W De = .ok (r, W1) ∧ WA K A1 x1 W1 ∧ DueAt B H u r)) (fun u H hI => ?_) (fun Q hQ => ?_)
        · clear Wl R
          obtain ⟨A1, x1, xp, Wl, hu⟩ := hI
          refine ⟨_, rfl, _, rfl, _, rfl, B, y, W, t, De, rfl, Wl.sB, R2, F, hD.up (fun _ _ e => Wl.sC _ _ e) (fun _ _ e => Wl.sC _ _ e), by omega, ?_⟩
          rcases hu with ⟨er, ed, rfl, R⟩ | ⟨r, W1, ed, R, hdu⟩
          · rw [ed]
            intro H1 s1
            refine ⟨.str (ern er), .str (ern er), rfl, .str _ _, _, rfl, iteF ?_⟩
            refine next_of ?_
            exact ⟨_, _, _, A1, B, C, x1, y, W, by rw [xp]; rfl, Wl.same s1, R, F, R2, Di, hf, ht, by omega, by omega, by omega, Sm⟩
          · rw [ed]
            intro B1 y1 H1 v yw R3 S3 ra
            obtain ⟨dd, _, _⟩ := did_ok F ed
            have mk : W1.marks.length ≤ i + 1 := by
              have := congrArg List.length (congrArg Nl.kept dd.nl)
              have h7 := ap_kept (Sk.nl W) De
              have h8 : (Sk.nl W).kept.length = W.marks.length := len_kept W
              have h9 : (Sk.nl W1).kept.length = W1.marks.length := len_kept W1
              omega
            have mn : W1.many ≤ (i : Int) + 1 := by
              have := congrArg Nl.many dd.nl
              have h7 := ap_many (Sk.nl W) De
              have h8 : (Sk.nl W).many = W.many := rfl
              have h9 : (Sk.nl W1).many = W1.many := rfl
              omega
            have hE : Eqv K H1 4 u v := by
              cases r with
              | int n =>
                have ra : v = .int n := ra
                have hdu : u = .int n := hdu
                subst ra hdu; exact .int _ _
              | non =>
                have ra : v = .non := ra
                have hdu : u = .non := hdu
                subst ra hdu; exact .non _
              | lst zs =>
                obtain ⟨l, rfl, z1, z2⟩ := ra
                obtain ⟨l2, rfl, w1, w2⟩ := hdu
                have := res_small F Sm ed
                exact eqv_ints 3 (SqL.of (S3.oth _ _ w1 w2)) (SqL.of z2) (by omega)
            refine ⟨u, v, rfl, hE, _, rfl, iteF ?_⟩
            refine next_of ?_
            exact ⟨_, _, _, A1, pl B1, C, x1, y1, W1, by rw [xp, yw]; rfl, Wl.stB S3, R, dd.wf, R3.plain, Di, hf, by rw [dd.tops]; exact ht, mk, mn, by omega, Sm.did F ed⟩
        · refine ⟨Wl.tb, fun H5 eN T5 => ?_⟩
          have Wl5 := Wl.ext eN T5
          refine ⟨_, rfl, _, rfl, A, x, W, t, De, rfl, ⟨Wl5.sA, R, F⟩, hD.up (fun _ _ e => Wl5.sC _ _ e) (fun _ _ e => Wl5.sC _ _ e), by omega, ?_⟩
          cases ed : doDeed W De with
          | error er =>
            intro H6 s6
            refine ⟨Sk.e6 er, en6_in _, by rw [en6_of], rfl, fun H7 s7 => ?_⟩
            rw [en6_of]
            exact hQ _ _ ⟨A, x, rfl, (Wl5.same s6).same s7, .inl ⟨er, ed, rfl, R⟩⟩
          | ok q =>
            obtain ⟨r, W1⟩ := q
            intro A1 x1 H6 u hx R1 S1 ra nA
            refine hQ _ _ ⟨pl A1, x1, hx, Wl5.stA S1, .inr ⟨r, W1, ed, R1.plain, ?_⟩⟩
            cases r with
            | int n => exact ra
            | non => exact ra
            | lst zs =>
              obtain ⟨l, rfl, z1, z2⟩ := ra
              exact ⟨l, rfl, z2, off_new Wl5.sB z1⟩
      · refine ⟨_, rfl, _, rfl, B, y, W, rfl, Wl.sB, R2, F, fun H1 t dp e1 dp0 dp40 ht1 => ?_⟩
        have Wl1 := Wl.same e1
        refine ⟨d, a, t, ns, _, dp, W.many, rfl, Di.dH Wl1.sC, Di.sH Wl1.sC, ht1, ⟨by omega, by omega⟩, ⟨dp0, by omega⟩, ⟨F.m0, by omega⟩, fun t' De H2 Dr hD D2 K2 => ?_⟩
        obtain ⟨C2, Wl2, Di2, hC2⟩ := Wl1.drawnK Di K2 D2
        have Wl3 := Wl2.joinF Wl1.sA Wl1.sB
        exact hQ _ _ ⟨t', De, jn C2 (fresh H1 H2), rfl, Wl3, Di2.jn, jn_old ((hC2 far nfd).trans hf), hD.up (fun b xs e => jn_new Wl2.sC (fresh_sub _ _) e (fun _ z => by cases z) (fun _ z => by cases z)) (fun b xs e => jn_new Wl2.sC (fresh_sub _ _) e (fun _ z => by cases z) (fun _ z => by cases z))⟩
    · clear Wd9 R7p R8p F0 Di9 hf9
      rintro σ H ⟨u4, u5, u10, A, B, C, x, y, W, rfl, Wl, R, F, R2, Di, hf, ht, hm, hmm, hi9, Sm⟩
      have h6 := F.h6
      have t1 := F.h1
      have many0 := F.m0
      have hi31 : n9.toNat ≤ 31 := by omega
      -- a hand that there isn't
      with_reducible refine set_split (fun v H => ∃ (hb : Int) (C : Hp), v = .int hb ∧ ¬ hOk W hb ∧ Wld (TT3 K) H A B C ∧ Die K C d a ns ∧ C far = some (.lst [.int 0, .int m])) (fun v H hI => ?_) (fun Q hQ => ?_)
      · clear Wl Di hf
        obtain ⟨hb, C, rfl, nh, Wl, Di, hf⟩ := hI
        with_reducible refine if_split (fun σ H => σ = [some (.ref a), some (.ref far), some (.int hv), some (.ref y.w), u4, u5, some (.int hb), none, none, some (.ref d), u10, none, none, none, none, some (.ref x.p), none] ∧ Wld (TT3 K) H A B C) (fun σ H hI => ?_) (fun nx' hn => ?_)
        rotate_left
        · refine ⟨_, rfl, _, rfl, _, rfl, x.p, hb, -1, rfl, Wl.tb, fun L fs H' M OK => ?_⟩
          refine ⟨L, rfl, ⟨_, SqL.of (lay_up OK.none OK.fns.at_)⟩, fun D nD => ?_⟩
          have Wl5 := Wl.ext OK.ext OK.tabs
          have KN := fun te => keptN_works (X := lawX P w K mg base c Ar outer sh Hs E) (te := te) (σ := [some (.ref a), some (.ref far), some (.int hv), some (.ref y.w), u4, u5, some (.int hb), none, none, some (.ref d), u10, none, none, none, none, some (.ref x.p), none]) rfl rfl rfl rfl rfl (vs := [16]) (i := 16) rfl (wd := "NoHand") rfl OK rfl nh t1 (by omega) ⟨Wl5.sA, R, F⟩ nD (by show 16 < 17; omega)
          obtain ⟨cs, Φ, k1, k2, k3, Z, k4, k5⟩ := KN (tVar 16)
          refine ⟨cs, Φ, k1, k2, k3, Z, k4, fun i' m' H2 hw => ?_⟩
          rcases k5 i' m' H2 hw with ⟨z1, z2, z3⟩ | ⟨z1, Nx, z2, z3⟩
          · refine .inl ⟨z1, ?_⟩
            refine ⟨by show 0 ≤ sizeLine; exact sz (by omega), fun p np => ?_⟩
            refine ⟨.list [], .list [], dp_nil (same_new np (.lst []) _ _ z3), dp_nil upd_same, rfl, rfl, ?_⟩
            rw [show PyData.eqv (.list []) (.list []) = true from by decide +kernel]
            refine ⟨_, rfl, ifF rfl ?_⟩
            exact next_of (hn _ _ ⟨rfl, (Wl5.same z2).same (same_new np _)⟩)
          · exact .inr ⟨z1, Nx, z2, z3⟩
        · clear Wl
          obtain ⟨rfl, Wl⟩ := hI
          clear nh
          with_reducible refine set_split (fun v H => ∃ (mi : Int) (C : Hp), v = .int mi ∧ hOk W mi ∧ Wld (TT3 K) H A B C ∧ Die K C d a ns ∧ C far = some (.lst [.int 0, .int m])) (fun v H hI => ?_) (fun Q hQ => ?_)
          rotate_left
          · refine ⟨_, rfl, _, rfl, d, a, hv, ns, rfl, Di.dH Wl.sC, Di.sH Wl.sC, ⟨by omega, by omega⟩, fun v1 i1 m1' r1 a1 b1 c1 => ?_⟩
            obtain ⟨C1, Wl1, Di1, hf1⟩ := drawF Wl Di hf nfd (m := m1') (r := r1) c1
            exact hQ _ _ ⟨v1, C1, rfl, ⟨a1, by omega⟩, Wl1, Di1, hf1⟩
          · clear Wl Di hf
            obtain ⟨mi, C, rfl, hk, Wl, Di, hf⟩ := hI
            with_reducible refine set_split (fun v H => v = .int ((path W.frames (top W mi)).length : Int) ∧ Wld (TT3 K) H A B C) (fun v H hI => ?_) (fun Q hQ => ?_)
            rotate_left
            · refine ⟨_, rfl, x.p, _, _, rfl, Wl.sA _ _ R.ins, wf_no (by decide +kernel), _, rfl, A, x, W, _, rfl, ⟨Wl.sA, R, F⟩, fun _ H'' p cs N => ⟨p, _, rfl, .inl (SqL.of N.ll.1), ?_⟩, fun z => absurd hk z⟩
              refine hQ _ _ ⟨?_, Wl.same N.same⟩
              rw [List.length_map, ← vl_length, ← N.vals, List.length_map]
            · clear Wl
              obtain ⟨rfl, Wl⟩ := hI
              with_reducible refine set_split (fun v H => ∃ (pl : Int) (C : Hp), v = .int pl ∧ SW.lk W.marks pl = none ∧ Wld (TT3 K) H A B C ∧ Die K C d a ns ∧ C far = some (.lst [.int 0, .int m])) (fun v H hI => ?_) (fun Q hQ => ?_)
              rotate_left
              · refine ⟨_, rfl, _, rfl, y.w, _, rfl, g_many (Wl.sB _ _ R2.wd), _, rfl, y.w, _, rfl, g_many (Wl.sB _ _ R2.wd), _, rfl, far, _, 1, V.int m, rfl, rfl, SqL.of (Wl.sC _ _ hf), rfl, _, _, rfl, rfl, by show 3 ≤ sizeLine; exact sz (by omega), fun l nl => ?_⟩
                have Wl1 := Wl.same (same_new nl (.lst [V.int (-1), V.int W.many, V.int (W.many + m)]))
                have nld := dice_there (Di.dH Wl.sC) nl
                refine ⟨_, rfl, d, a, 3, ns, rfl, Di.dH Wl1.sC, Di.sH Wl1.sC, ⟨by decide, by decide⟩, fun v1 i1 m1' r1 a1 b1 c1 => ?_⟩
                obtain ⟨C1, Wl2, Di1, hf1⟩ := drawF Wl1 Di hf nfd (m := m1') (r := r1) c1
                obtain ⟨pl, hat, hp⟩ := of_three (a := -1) (b := W.many) (c := W.many + m) a1 b1
                refine ⟨l, _, v1, V.int pl, rfl, rfl, SqL.of ((upd_ne nld).trans upd_same), hat, ?_⟩
                exact hQ _ _ ⟨pl, C1, rfl, no_mark F (by omega), Wl2, Di1, hf1⟩
              · clear Wl Di hf
                obtain ⟨pl, C, rfl, hpl, Wl, Di, hf⟩ := hI
                with_reducible refine set_split (fun v H => ∃ (L : Addr) (fs : List (Addr × LF)), v = .ref L ∧ Fns H L fs ∧ (∀ q ∈ fs, Made (lawX P w K mg base c Ar outer sh Hs E) q) ∧ (∀ q ∈ fs, Refs P w K mg base 8 .place (fun H => ∃ A, At K A H x W) lawN [some (.ref a), some (.ref far), some (.int hv), some (.ref y.w), u4, u5, some (.int hb), some (.int ((path W.frames (top W mi)).length : Int)), some (.ref L), some (.ref d), u10, none, some (.int mi), some (.int pl), none, some (.ref x.p), none] q) ∧ Wld (TT3 K) H A B C) (fun v H hI => ?_) (fun Q hQ => ?_)
                rotate_left
                · refine ⟨Wl.tb, fun f1 c1 G1 y1 g1 t1' nf1 hf1 hc1 => ?_⟩
                  have L1 : LamAt G1 f1 _ := ⟨hf1, hc1, .inl rfl⟩
                  have Wl1 := Wl.ext y1 t1'
                  refine ⟨Wl1.tb, fun f2 c2 dt2 G2 y2 g2 t2' nf2 hf2 hc2 hd2 => ?_⟩
                  have L2 : LamAt G2 f2 _ := ⟨hf2, hc2, .inr ⟨dt2, _, rfl, hd2⟩⟩
                  have Wl2 := Wl1.ext y2 t2'
                  refine ⟨Wl2.tb, fun f3 c3 dt3 G3 y3 g3 t3' nf3 hf3 hc3 hd3 => ?_⟩
                  have L3 : LamAt G3 f3 _ := ⟨hf3, hc3, .inr ⟨dt3, _, rfl, hd3⟩⟩
                  have Wl3 := Wl2.ext y3 t3'
                  have M1 := L1.ext (y2.trans y3)
                  have M2 := L2.ext y3
                  have M3 := L3
                  refine ⟨by show 3 ≤ sizeLine; exact sz (by omega), fun L nL => ?_⟩
                  refine hQ _ _ ⟨L, [(f1, lnF M1), (f2, lnF M2), (f3, lnF M3)], rfl, fns_of nL rfl ?_, ?_, ?_, Wl3.same (same_new nL _)⟩
                  · intro q hq
                    simp only [List.mem_cons, List.not_mem_nil, or_false] at hq
                    rcases hq with rfl | rfl | rfl
                    · exact M1
                    · exact M2
                    · exact M3
                  · intro q hq
                    simp only [List.mem_cons, List.not_mem_nil, or_false] at hq
                    rcases hq with rfl | rfl | rfl
                    all_goals exact made_by (sc := defScope s_law) rfl (by decide +kernel)
                  · intro q hq
                    simp only [List.mem_cons, List.not_mem_nil, or_false] at hq
                    rcases hq with rfl | rfl | rfl
                    · refine ⟨_, lok_of (k := 7) (lsc_of (LamX.lamS_by (sc := defScope s_law) (by decide +kernel))) (lbinds0 rfl fun _ _ _ => rfl) (fun A outer s H E hr => by exact (pe_meth (pv 15) T.cl_Wood T.m_leap (ok_Wood_leap T) (hr.mono (by decide)) T.b_Wood_leap .nil (passes_call (takes_of rfl rfl rfl rfl) (fun _ _ _ _ h => h)) (pa_cons (pv 12) (pa_cons (pv 13) pa_nil)))), fun H' E' Q' hI he => ?_⟩
                      obtain ⟨A, I⟩ := hI
                      exact ⟨_, rfl, x.p, _, _, rfl, I.sub _ _ I.wa.ins, wf_no (by decide +kernel), _, rfl, _, rfl, A, x, W, mi, pl, rfl, I, by rw [show doLeap W mi pl = .error .place from by unfold doLeap; rw [if_neg (fun z => z hk), hpl]]; exact he⟩
                    · refine ⟨_, lok_of (k := 7) (lsc_ofD (LamD.lamS1_by (sc := defScope s_law) (by decide +kernel)) (show (Str.ofString "_law_a") ∉ (lawN : List Str) by decide +kernel)) (lbinds1 rfl (fun _ _ _ _ _ _ _ _ _ h => BindsTo.of_defaults rfl h rfl rfl rfl)) (fun A outer s H E hr => by exact (pe_meth (pv 15) T.cl_Wood T.m_forget (ok_Wood_forget T) (hr.mono (by decide)) T.b_Wood_forget .nil (passes_call (takes_of rfl rfl rfl rfl) (fun _ _ _ _ h => h)) (pa_cons (pv 13) pa_nil))), fun H' E' Q' hI he => ?_⟩
                      obtain ⟨A, I⟩ := hI
                      exact ⟨_, rfl, x.p, _, _, rfl, I.sub _ _ I.wa.ins, wf_no (by decide +kernel), _, rfl, A, x, W, pl, rfl, I, by rw [show doForget W pl = .error .place from by unfold doForget; rw [hpl]]; exact he⟩
                    · refine ⟨_, lok_of (k := 7) (lsc_ofD (LamD.lamS1_by (sc := defScope s_law) (by decide +kernel)) (show (Str.ofString "_law_b") ∉ (lawN : List Str) by decide +kernel)) (lbinds1 rfl (fun _ _ _ _ _ _ _ _ _ h => BindsTo.of_defaults rfl h rfl rfl rfl)) (fun A outer s H E hr => by exact (pe_meth (pv 15) T.cl_Wood T.m_glance (ok_Wood_glance T) (hr.mono (by decide)) T.b_Wood_glance .nil (passes_call (takes_of rfl rfl rfl rfl) (fun _ _ _ _ h => h)) (pa_cons (pv 13) pa_nil))), fun H' E' Q' hI he => ?_⟩
                      obtain ⟨A, I⟩ := hI
                      exact ⟨_, rfl, x.p, _, _, rfl, I.sub _ _ I.wa.ins, wf_no (by decide +kernel), _, rfl, A, x, W, pl, rfl, I, (fun y z => by rw [hpl] at z; cases z), fun _ => he⟩
                · clear Wl
                  obtain ⟨L, fs, rfl, Fn, hM, hR, Wl⟩ := hI
                  with_reducible refine if_split (fun σ H => σ = [some (.ref a), some (.ref far), some (.int hv), some (.ref y.w), u4, u5, some (.int hb), some (.int ((path W.frames (top W mi)).length : Int)), some (.ref L), some (.ref d), u10, none, some (.int mi), some (.int pl), none, some (.ref x.p), none] ∧ Wld (TT3 K) H A B C) (fun σ H hI => ?_) (fun nx' hn => ?_)
                  rotate_left
                  · refine ⟨_, rfl, L, rfl, ⟨_, SqL.of Fn.at_⟩, fun D nD => ?_⟩
                    have Wl5 := Wl
                    have KN := fun te => keptN_mine (X := lawX P w K mg base c Ar outer sh Hs E) (te := te) (σ := [some (.ref a), some (.ref far), some (.int hv), some (.ref y.w), u4, u5, some (.int hb), some (.int ((path W.frames (top W mi)).length : Int)), some (.ref L), some (.ref d), u10, none, some (.int mi), some (.int pl), none, some (.ref x.p), none]) rfl rfl rfl rfl rfl (vs := [16]) (i := 16) rfl (wd := "NoPlace") rfl (N := lawN) rfl (fun x hx => cell_has hx) Fn nD (by show 16 < 17; omega) hM hR (fun H' e => ⟨A, (⟨Wl.sA, R, F⟩ : At K A _ x W).same e⟩)
                    obtain ⟨cs, Φ, k1, k2, k3, Z, k4, k5⟩ := KN (tVar 16)
                    refine ⟨cs, Φ, k1, k2, k3, Z, k4, fun i' m' H2 hw => ?_⟩
                    rcases k5 i' m' H2 hw with ⟨z1, z2, z3⟩ | ⟨z1, Nx, z2, z3⟩
                    · refine .inl ⟨z1, ?_⟩
                      refine ⟨by show 0 ≤ sizeLine; exact sz (by omega), fun p np => ?_⟩
                      refine ⟨.list [], .list [], dp_nil (same_new np (.lst []) _ _ z3), dp_nil upd_same, rfl, rfl, ?_⟩
                      rw [show PyData.eqv (.list []) (.list []) = true from by decide +kernel]
                      refine ⟨_, rfl, ifF rfl ?_⟩
                      exact next_of (hn _ _ ⟨rfl, (Wl5.same z2).same (same_new np _)⟩)
                    · exact .inr ⟨z1, Nx, z2, z3⟩
                  · clear Wl
                    obtain ⟨rfl, Wl⟩ := hI
                    clear Fn hM hR hpl
                    with_reducible refine set_split (fun v H => ∃ (de : Int) (C : Hp), v = .int de ∧ ¬ (0 ≤ de ∧ de < ((path W.frames (top W mi)).length : Int)) ∧ Wld (TT3 K) H A B C ∧ Die K C d a ns ∧ C far = some (.lst [.int 0, .int m])) (fun v H hI => ?_) (fun Q hQ => ?_)
                    rotate_left
                    · refine ⟨_, rfl, _, rfl, _, rfl, _, rfl, far, _, 1, V.int m, rfl, rfl, SqL.of (Wl.sC _ _ hf), rfl, _, _, rfl, rfl, by show 3 ≤ sizeLine; exact sz (by omega), fun l nl => ?_⟩
                      have Wl1 := Wl.same (same_new nl (.lst [V.int (-1), V.int ((path W.frames (top W mi)).length : Int), V.int (((path W.frames (top W mi)).length : Int) + m)]))
                      have nld := dice_there (Di.dH Wl.sC) nl
                      refine ⟨_, rfl, d, a, 3, ns, rfl, Di.dH Wl1.sC, Di.sH Wl1.sC, ⟨by decide, by decide⟩, fun v1 i1 m1' r1 a1 b1 c1 => ?_⟩
                      obtain ⟨C1, Wl2, Di1, hf1⟩ := drawF Wl1 Di hf nfd (m := m1') (r := r1) c1
                      obtain ⟨de, hat, hp⟩ := of_three (a := -1) (b := ((path W.frames (top W mi)).length : Int)) (c := ((path W.frames (top W mi)).length : Int) + m) a1 b1
                      refine ⟨l, _, v1, V.int de, rfl, rfl, SqL.of ((upd_ne nld).trans upd_same), hat, ?_⟩
                      exact hQ _ _ ⟨de, C1, rfl, by omega, Wl2, Di1, hf1⟩
                    · clear Wl Di hf
                      obtain ⟨de, C, rfl, hde, Wl, Di, hf⟩ := hI
                      with_reducible refine set_split (fun v H => ∃ (L : Addr) (fs : List (Addr × LF)), v = .ref L ∧ Fns H L fs ∧ (∀ q ∈ fs, Made (lawX P w K mg base c Ar outer sh Hs E) q) ∧ (∀ q ∈ fs, Refs P w K mg base 8 .call (fun H => ∃ A, At K A H x W) lawN [some (.ref a), some (.ref far), some (.int hv), some (.ref y.w), u4, u5, some (.int hb), some (.int ((path W.frames (top W mi)).length : Int)), some (.ref L), some (.ref d), u10, some (.int de), some (.int mi), some (.int pl), none, some (.ref x.p), none] q) ∧ Wld (TT3 K) H A B C) (fun v H hI => ?_) (fun Q hQ => ?_)
                      rotate_left
                      · refine ⟨Wl.tb, fun f1 c1 G1 y1 g1 t1' nf1 hf1 hc1 => ?_⟩
                        have L1 : LamAt G1 f1 _ := ⟨hf1, hc1, .inl rfl⟩
                        have Wl1 := Wl.ext y1 t1'
                        refine ⟨Wl1.tb, fun f2 c2 dt2 G2 y2 g2 t2' nf2 hf2 hc2 hd2 => ?_⟩
                        have L2 : LamAt G2 f2 _ := ⟨hf2, hc2, .inr ⟨dt2, _, rfl, hd2⟩⟩
                        have Wl2 := Wl1.ext y2 t2'
                        have M1 := L1.ext y2
                        have M2 := L2
                        refine ⟨by show 2 ≤ sizeLine; exact sz (by omega), fun L nL => ?_⟩
                        refine hQ _ _ ⟨L, [(f1, lnF M1), (f2, lnF M2)], rfl, fns_of nL rfl ?_, ?_, ?_, Wl2.same (same_new nL _)⟩
                        · intro q hq
                          simp only [List.mem_cons, List.not_mem_nil, or_false] at hq
                          rcases hq with rfl | rfl
                          · exact M1
                          · exact M2
                        · intro q hq
                          simp only [List.mem_cons, List.not_mem_nil, or_false] at hq
                          rcases hq with rfl | rfl
                          all_goals exact made_by (sc := defScope s_law) rfl (by decide +kernel)
                        · intro q hq
                          simp only [List.mem_cons, List.not_mem_nil, or_false] at hq
                          rcases hq with rfl | rfl
                          · refine ⟨_, lok_of (k := 7) (lsc_of (LamX.lamS_by (sc := defScope s_law) (by decide +kernel))) (lbinds0 rfl fun _ _ _ => rfl) (fun A outer s H E hr => by exact (pe_meth (pv 15) T.cl_Wood T.m_put (ok_Wood_put T) (hr.mono (by decide)) T.b_Wood_put .nil (passes_call (takes_of rfl rfl rfl rfl) (fun _ _ _ _ h => h)) (pa_cons (pv 12) (pa_cons (pv 11) (pa_cons (pe_un un_neg pe_int) (pa_cons pe_int pa_nil)))))), fun H' E' Q' hI he => ?_⟩
                            obtain ⟨A, I⟩ := hI
                            exact ⟨_, rfl, x.p, _, _, rfl, I.sub _ _ I.wa.ins, wf_no (by decide +kernel), _, rfl, _, rfl, _, rfl, A, x, W, mi, de, -1, 0, rfl, I, by rw [show doPut W mi de (-1) 0 = .error .call from by unfold doPut; rw [no_call hk hde]]; exact he⟩
                          · refine ⟨_, lok_of (k := 7) (lsc_ofD (LamD.lamS1_by (sc := defScope s_law) (by decide +kernel)) (show (Str.ofString "_law_a") ∉ (lawN : List Str) by decide +kernel)) (lbinds1 rfl (fun _ _ _ _ _ _ _ _ _ h => BindsTo.of_defaults rfl h rfl rfl rfl)) (fun A outer s H E hr => by exact (pe_meth (pv 15) T.cl_Wood T.m_price (ok_Wood_price T) (hr.mono (by decide)) T.b_Wood_price .nil (passes_call (takes_of rfl rfl rfl rfl) (fun _ _ _ _ h => h)) (pa_cons (pv 12) (pa_cons (pv 11) pa_nil)))), fun H' E' Q' hI he => ?_⟩
                            obtain ⟨A, I⟩ := hI
                            exact ⟨_, rfl, x.p, _, _, rfl, I.sub _ _ I.wa.ins, wf_no (by decide +kernel), _, rfl, _, rfl, A, x, W, mi, de, rfl, I, by rw [show doPrice W mi de = .error .call from by unfold doPrice; rw [no_call hk hde]]; exact he⟩
                      · clear Wl
                        obtain ⟨L, fs, rfl, Fn, hM, hR, Wl⟩ := hI
                        with_reducible refine if_split (fun σ H => σ = [some (.ref a), some (.ref far), some (.int hv), some (.ref y.w), u4, u5, some (.int hb), some (.int ((path W.frames (top W mi)).length : Int)), some (.ref L), some (.ref d), u10, some (.int de), some (.int mi), some (.int pl), none, some (.ref x.p), none] ∧ Wld (TT3 K) H A B C) (fun σ H hI => ?_) (fun nx' hn => ?_)
                        rotate_left
                        · refine ⟨_, rfl, L, rfl, ⟨_, SqL.of Fn.at_⟩, fun D nD => ?_⟩
                          have Wl5 := Wl
                          have KN := fun te => keptN_mine (X := lawX P w K mg base c Ar outer sh Hs E) (te := te) (σ := [some (.ref a), some (.ref far), some (.int hv), some (.ref y.w), u4, u5, some (.int hb), some (.int ((path W.frames (top W mi)).length : Int)), some (.ref L), some (.ref d), u10, some (.int de), some (.int mi), some (.int pl), none, some (.ref x.p), none]) rfl rfl rfl rfl rfl (vs := [16]) (i := 16) rfl (wd := "NoCall") rfl (N := lawN) rfl (fun x hx => cell_has hx) Fn nD (by show 16 < 17; omega) hM hR (fun H' e => ⟨A, (⟨Wl.sA, R, F⟩ : At K A _ x W).same e⟩)
                          obtain ⟨cs, Φ, k1, k2, k3, Z, k4, k5⟩ := KN (tVar 16)
                          refine ⟨cs, Φ, k1, k2, k3, Z, k4, fun i' m' H2 hw => ?_⟩
                          rcases k5 i' m' H2 hw with ⟨z1, z2, z3⟩ | ⟨z1, Nx, z2, z3⟩
                          · refine .inl ⟨z1, ?_⟩
                            refine ⟨by show 0 ≤ sizeLine; exact sz (by omega), fun p np => ?_⟩
                            refine ⟨.list [], .list [], dp_nil (same_new np (.lst []) _ _ z3), dp_nil upd_same, rfl, rfl, ?_⟩
                            rw [show PyData.eqv (.list []) (.list []) = true from by decide +kernel]
                            refine ⟨_, rfl, ifF rfl ?_⟩
                            exact next_of (hn _ _ ⟨rfl, (Wl5.same z2).same (same_new np _)⟩)
                          · exact .inr ⟨z1, Nx, z2, z3⟩
                        · clear Wl
                          obtain ⟨rfl, Wl⟩ := hI
                          clear Fn hM hR hde
                          with_reducible refine if_split (fun σ H => ∃ (u14 : Option V) (C : Hp), σ = [some (.ref a), some (.ref far), some (.int hv), some (.ref y.w), u4, u5, some (.int hb), some (.int ((path W.frames (top W mi)).length : Int)), some (.ref L), some (.ref d), u10, some (.int de), some (.int mi), some (.int pl), u14, some (.ref x.p), none] ∧ Wld (TT3 K) H A B C ∧ Die K C d a ns ∧ C far = some (.lst [.int 0, .int m])) (fun σ H hI => ?_) (fun nx' hn => ?_)
                          rotate_left
                          · refine ⟨_, rfl, _, _, rfl, rfl, _, rfl, ?_⟩
                            by_cases c1 : (0 : Int) < ((path W.frames (top W mi)).length : Int)
                            · refine ifT (decide_eq_true c1) ?_
                              obtain ⟨r, pr, ep⟩ : ∃ r pr, path W.frames (top W mi) = r :: pr := by
                                cases q : path W.frames (top W mi) with
                                | nil => rw [q] at c1; simp at c1
                                | cons r pr => exact ⟨r, pr, rfl⟩
                              have s3 := small_top Sm hk ep
                              with_reducible refine set_split (fun v H => ∃ (st : Int) (C : Hp), v = .int st ∧ ¬ (0 ≤ st ∧ st < ((sl W.frames r).length : Int)) ∧ Wld (TT3 K) H A B C ∧ Die K C d a ns ∧ C far = some (.lst [.int 0, .int m])) (fun v H hI => ?_) (fun Q hQ => ?_)
                              · clear Wl Di hf
                                obtain ⟨st, C, rfl, hst, Wl, Di, hf⟩ := hI
                                refine ⟨Wl.tb, fun H5 eN T5 => ?_⟩
                                have Wl5 := Wl.ext eN T5
                                refine ⟨_, rfl, x.p, _, _, rfl, Wl5.sA _ _ R.ins, wf_no (by decide +kernel), _, rfl, _, rfl, A, x, W, mi, 0, st, 0, rfl, ⟨Wl5.sA, R, F⟩, ?_⟩
                                rw [no_slot hk ep hst]
                                intro H6 s6
                                refine ⟨.slot, en6_in _, rfl, rfl, fun H7 s7 => ?_⟩
                                refine ⟨.str _, .str _, .str _, .str _, shaped_str (by decide +kernel), shaped_str (by decide +kernel), _, rfl, ifF (by decide +kernel) ?_⟩
                                exact next_of (hn _ _ ⟨_, C, rfl, (Wl5.same s6).same s7, Di, hf⟩)
                              · refine ⟨_, rfl, _, rfl, x.p, _, _, rfl, Wl.sA _ _ R.ins, wf_no (by decide +kernel), _, rfl, A, x, W, _, rfl, ⟨Wl.sA, R, F⟩, fun _ H'' p cs N => ?_, fun z => absurd hk z⟩
                                have hvs := N.vals
                                unfold vl at hvs
                                rw [ep] at hvs
                                obtain ⟨c0, cs', rfl⟩ : ∃ c0 cs', cs = c0 :: cs' := by
                                  cases cs with
                                  | nil => simp at hvs
                                  | cons a l => exact ⟨a, l, rfl⟩
                                have hc0 : c0.2 = sl W.frames r := by rw [List.map_cons] at hvs; exact (List.cons.inj hvs).1
                                have hl0 := N.ll.2 c0 (List.mem_cons_self ..)
                                have WlN := Wl.same N.same
                                refine ⟨p, _, 0, .ref c0.1, rfl, rfl, SqL.of N.ll.1, atI_nat (j := 0) rfl, c0.1, _, rfl, .inl (SqL.of hl0), ?_⟩
                                refine ⟨_, rfl, far, _, 1, V.int m, rfl, rfl, SqL.of (WlN.sC _ _ hf), rfl, _, _, rfl, rfl, by show 3 ≤ sizeLine; exact sz (by omega), fun l nl => ?_⟩
                                rw [List.length_map, hc0]
                                have Wl1 := WlN.same (same_new nl (.lst [V.int (-1), V.int ((sl W.frames r).length : Int), V.int (3 + m)]))
                                have nld := dice_there (Di.dH WlN.sC) nl
                                refine ⟨_, rfl, d, a, 3, ns, rfl, Di.dH Wl1.sC, Di.sH Wl1.sC, ⟨by decide, by decide⟩, fun v1 i1 m1' r1 a1 b1 c1 => ?_⟩
                                obtain ⟨C1, Wl2, Di1, hf1⟩ := drawF Wl1 Di hf nfd (m := m1') (r := r1) c1
                                obtain ⟨st, hat, hp⟩ := of_three (a := -1) (b := ((sl W.frames r).length : Int)) (c := 3 + m) a1 b1
                                refine ⟨l, _, v1, V.int st, rfl, rfl, SqL.of ((upd_ne nld).trans upd_same), hat, ?_⟩
                                exact hQ _ _ ⟨st, C1, rfl, by omega, Wl2, Di1, hf1⟩
                            · refine ifF (decide_eq_false c1) ?_
                              exact next_of (hn _ _ ⟨_, C, rfl, Wl, Di, hf⟩)
                          · clear Wl Di hf
                            obtain ⟨u14, C, rfl, Wl, Di, hf⟩ := hI
                            with_reducible refine if_split (fun σ H => σ = [some (.ref a), some (.ref far), some (.int hv), some (.ref y.w), u4, u5, some (.int hb), some (.int ((path W.frames (top W mi)).length : Int)), some (.ref L), some (.ref d), u10, some (.int de), some (.int mi), some (.int pl), u14, some (.ref x.p), none] ∧ ∃ C, Wld (TT3 K) H A B C) (fun σ H hI => ?_) (fun nx' hn => ?_)
                            rotate_left
                            · refine ⟨Wl.tb, fun H5 eN T5 => ?_⟩
                              have Wl5 := Wl.ext eN T5
                              refine ⟨_, rfl, x.p, _, _, rfl, Wl5.sA _ _ R.ins, wf_no (by decide +kernel), _, rfl, by show 1 ≤ sizeLine; exact sz (by omega), fun l nl => ?_⟩
                              have Wl6 := Wl5.same (same_new nl (.lst [V.int 1]))
                              have nld := dice_there (Di.dH Wl5.sC) nl
                              refine ⟨_, rfl, d, a, 3, ns, rfl, Di.dH Wl6.sC, Di.sH Wl6.sC, ⟨by decide, by decide⟩, fun v1 i1 m1' r1 a1 b1 c1 => ?_⟩
                              obtain ⟨C1, Wl7, Di1, hf1⟩ := drawF Wl6 Di hf nfd (m := m1') (r := r1) c1
                              refine ⟨_, _, rfl, rfl, l, 4 + v1, [V.int 1], rfl, rfl, (upd_ne nld).trans upd_same, by omega, by omega, by show 1 * (4 + v1).toNat ≤ sizeLine; exact sz (by omega), fun l2 nl2 => ?_⟩
                              have Wl8 := Wl7.same (same_new nl2 (.lst (List.replicate (4 + v1).toNat [V.int 1]).flatten))
                              refine ⟨A, x, W, mi, l2, List.replicate (4 + v1).toNat 1, rfl, ⟨Wl8.sA, R, F⟩, SqL.of (upd_same.trans (by rw [rep_ints])), ?_⟩
                              rw [no_room4 hk (by rw [List.length_replicate]; omega)]
                              intro H6 s6
                              refine ⟨.slot, en6_in _, rfl, rfl, fun H7 s7 => ?_⟩
                              refine ⟨.str _, .str _, .str _, .str _, shaped_str (by decide +kernel), shaped_str (by decide +kernel), _, rfl, ifF (by decide +kernel) ?_⟩
                              exact next_of (hn _ _ ⟨rfl, C1, (Wl8.same s6).same s7⟩)
                            · clear Wl Di hf
                              obtain ⟨rfl, C, Wl⟩ := hI
                              refine ⟨_, rfl, _, rfl, A, B, x, y, W, rfl, ⟨Wl.sA, R, F⟩, Wl.sB, R2, Sm, by omega, fun H2 e2 => k _⟩
      · refine ⟨_, rfl, _, rfl, _, rfl, d, a, 2, ns, rfl, Di.dH Wl.sC, Di.sH Wl.sC, ⟨by decide, by decide⟩, fun v1 i1 m1' r1 a1 b1 c1 => ?_⟩
        obtain ⟨C1, Wl1, Di1, hf1⟩ := drawF Wl Di hf nfd (m := m1') (r := r1) c1
        obtain ⟨x1, at1, p1, p2⟩ := far_at m1 m6 a1 b1
        refine ⟨far, _, v1, V.int x1, rfl, rfl, SqL.of (Wl1.sC _ _ hf1), at1, _, _, rfl, rfl, ?_⟩
        refine ⟨_, rfl, _, rfl, _, rfl, d, a, 2, ns, rfl, Di1.dH Wl1.sC, Di1.sH Wl1.sC, ⟨by decide, by decide⟩, fun v2 i2 m2' r2 a2 b2 c2 => ?_⟩
        obtain ⟨C2, Wl2, Di2, hf2⟩ := drawF Wl1 Di1 hf1 nfd (m := m2') (r := r2) c2
        obtain ⟨x2, at2, p3, p4⟩ := far_at m1 m6 a2 b2
        refine ⟨far, _, v2, V.int x2, rfl, rfl, SqL.of (Wl2.sC _ _ hf2), at2, _, _, rfl, rfl, by show 2 ≤ sizeLine; exact sz (by omega), fun l nl => ?_⟩
        have Wl3 := Wl2.same (same_new nl (.lst [V.int (-1 - x1), V.int (hv + x2)]))
        have nld := dice_there (Di2.dH Wl2.sC) nl
        refine ⟨_, rfl, d, a, 2, ns, rfl, Di2.dH Wl3.sC, Di2.sH Wl3.sC, ⟨by decide, by decide⟩, fun v3 i3 m3' r3 a3 b3 c3 => ?_⟩
        obtain ⟨C3, Wl4, Di3, hf3⟩ := drawF Wl3 Di2 hf2 nfd (m := m3') (r := r3) c3
        obtain ⟨hb, hat, nh⟩ : ∃ hb : Int, atI [V.int (-1 - x1), V.int (hv + x2)] v3 = some (V.int hb) ∧ ¬ hOk W hb := by
          have : v3 = 0 ∨ v3 = 1 := by omega
          rcases this with z | z
          · subst z; exact ⟨_, rfl, fun z => by have := z.1; omega⟩
          · subst z; exact ⟨_, rfl, fun z => by have := z.2; omega⟩
        refine ⟨l, _, v3, V.int hb, rfl, rfl, SqL.of ((upd_ne nld).trans upd_same), hat, ?_⟩
        exact hQ _ _ ⟨hb, C3, rfl, nh, Wl4, Di3, hf3⟩
end
end Sk
end
section
/-! SwEnd of law_k01_what_is_none: the walk at its head. -/
namespace Sk
open PySem PySem.Spec PyProof.Rows L2
theorem fdOf_of {K : PySem.W.Frag} {x qual : Str} {params : Arguments} {body : List Stmt} {scope : Scope} {dvs : List V} {kws : List (Str × V)} {f : Addr} {fd : FuncData} (F : FunD K x qual params body scope dvs kws f fd) : fd = fdOf K f := by
  obtain ⟨oc, od, dV, kV, doc, pm, an, cdv, ct, osl, e, lk, _⟩ := F.ex
  unfold fdOf
  rw [lk]
theorem fnT_of {K : PySem.W.Frag} {p : Str × Option Str} {name qual : Str} {st : Stmt} {fd : FuncData} (F : FunD K name qual (defArgs st) (defBody st) (defScope st) [] [] (He.fAd K p) fd) : FnT K p name qual st := by
  have e := fdOf_of F
  subst e
  exact F
theorem ex_all {K : PySem.W.Frag} (h : exK K = true) (hs : ∀ x ∈ exN, PySem.W.subIn K (.ref (He.ga K x)) (.type "BaseException") = some true) : (vkB K = true) ∧ (∀ x ∈ exN, ∀ y ∈ exN, PySem.W.exmOne K (.ref (He.ga K x)) (.ref (He.ga K y)) = some (decide (x = y))) ∧ (∀ x ∈ exN, ExcC K (He.ga K x)) ∧ (∀ x ∈ exN, PySem.W.kitOne K (.ref (He.ga K x)) (.type "ValueError") = some true) ∧ ∀ x ∈ exN, ∀ y ∈ exN, PySem.W.kitOne K (.ref (He.ga K x)) (.ref (He.ga K y)) = some (decide (x = y)) := by
  unfold exK at h
  obtain ⟨h1, h2⟩ := Bool.and_eq_true_iff.mp h
  obtain ⟨h3, h4'⟩ := Bool.and_eq_true_iff.mp h2
  obtain ⟨h4, hv⟩ := Bool.and_eq_true_iff.mp h4'
  have h5 := List.all_eq_true.mp h4
  refine ⟨hv, fun x hx y hy => ?_, fun x hx => ?_, fun x hx => ?_, fun x hx y hy => ?_⟩
  · obtain ⟨_, a2⟩ := Bool.and_eq_true_iff.mp (h5 x hx)
    exact of_decide_eq_true (Bool.and_eq_true_iff.mp (List.all_eq_true.mp (Bool.and_eq_true_iff.mp a2).2 y hy)).2
  · obtain ⟨a1, _⟩ := Bool.and_eq_true_iff.mp (h5 x hx)
    unfold excC at a1
    obtain ⟨b1, b2⟩ := Bool.and_eq_true_iff.mp a1
    obtain ⟨b3, b4⟩ := Bool.and_eq_true_iff.mp b2
    obtain ⟨b5, b6⟩ := Bool.and_eq_true_iff.mp b4
    obtain ⟨b7, b8⟩ := Bool.and_eq_true_iff.mp b6
    exact ⟨of_decide_eq_true b1, of_decide_eq_true b3, hs x hx, b5, of_decide_eq_true b7, of_decide_eq_true h1, of_decide_eq_true h3, of_decide_eq_true b8⟩
  · obtain ⟨_, a2⟩ := Bool.and_eq_true_iff.mp (h5 x hx)
    exact of_decide_eq_true (Bool.and_eq_true_iff.mp a2).1
  · obtain ⟨_, a2⟩ := Bool.and_eq_true_iff.mp (h5 x hx)
    exact of_decide_eq_true (Bool.and_eq_true_iff.mp (List.all_eq_true.mp (Bool.and_eq_true_iff.mp a2).2 y hy)).1
theorem txt_of {K : PySem.W.Frag} {h : Heap} {mg : Str → Option Value} {w : World} (X : K.In h) (G : h.Ns mainGlobals mg) (c : He.SaysX faL fnL tbL tfL exK w h K) : Txt K mg := by
  have hs : ∀ x ∈ exN, PySem.W.subIn K (.ref (He.ga K x)) (.type "BaseException") = some true := List.forall_mem_cons.mpr ⟨(He.exc_ok (c.t.d.fact 62 (f := .exc "BadWood") rfl)).2.2.1, List.forall_mem_cons.mpr ⟨(He.exc_ok (c.t.d.fact 64 (f := .exc "NoHand") rfl)).2.2.1, List.forall_mem_cons.mpr ⟨(He.exc_ok (c.t.d.fact 66 (f := .exc "NoPlace") rfl)).2.2.1, List.forall_mem_cons.mpr ⟨(He.exc_ok (c.t.d.fact 68 (f := .exc "NoCall") rfl)).2.2.1, List.forall_mem_cons.mpr ⟨(He.exc_ok (c.t.d.fact 70 (f := .exc "NoSlot") rfl)).2.2.1, List.forall_mem_cons.mpr ⟨(He.exc_ok (c.t.d.fact 72 (f := .exc "NoRoom") rfl)).2.2.1, fun _ z => absurd z List.not_mem_nil⟩⟩⟩⟩⟩⟩
  obtain ⟨_, q0, q1, q2, q3⟩ := ex_all c.more hs
  obtain ⟨_, f0⟩ := c.t.d.def_ 0 (d := d_Frame_init) rfl
  obtain ⟨_, f1⟩ := c.t.d.def_ 1 (d := d_Wood_init) rfl
  obtain ⟨_, f2⟩ := c.t.d.def_ 2 (d := d_Wood_need_hand) rfl
  obtain ⟨_, f3⟩ := c.t.d.def_ 3 (d := d_Wood_need_place) rfl
  obtain ⟨_, f4⟩ := c.t.d.def_ 4 (d := d_Wood_hands) rfl
  obtain ⟨_, f5⟩ := c.t.d.def_ 5 (d := d_Wood_path) rfl
  obtain ⟨_, f6⟩ := c.t.d.def_ 6 (d := d_Wood_new_room) rfl
  obtain ⟨_, f7⟩ := c.t.d.def_ 7 (d := d_Wood_need_free) rfl
  obtain ⟨_, f8⟩ := c.t.d.def_ 8 (d := d_Wood_want) rfl
  obtain ⟨_, f9⟩ := c.t.d.def_ 9 (d := d_Wood_leave) rfl
  obtain ⟨_, f10⟩ := c.t.d.def_ 10 (d := d_Wood_call) rfl
  obtain ⟨_, f11⟩ := c.t.d.def_ 11 (d := d_Wood_back) rfl
  obtain ⟨_, f12⟩ := c.t.d.def_ 12 (d := d_Wood_turn_to) rfl
  obtain ⟨_, f13⟩ := c.t.d.def_ 13 (d := d_Wood_branch) rfl
  obtain ⟨_, f14⟩ := c.t.d.def_ 14 (d := d_Wood_keep) rfl
  obtain ⟨_, f15⟩ := c.t.d.def_ 15 (d := d_Wood_leap) rfl
  obtain ⟨_, f16⟩ := c.t.d.def_ 16 (d := d_Wood_forget) rfl
  obtain ⟨_, f17⟩ := c.t.d.def_ 17 (d := d_Wood_look) rfl
  obtain ⟨_, f18⟩ := c.t.d.def_ 18 (d := d_Wood_glance) rfl
  obtain ⟨_, f19⟩ := c.t.d.def_ 19 (d := d_Wood_way) rfl
  obtain ⟨_, f20⟩ := c.t.d.def_ 20 (d := d_Wood_price) rfl
  obtain ⟨_, f21⟩ := c.t.d.def_ 21 (d := d_Wood_put) rfl
  obtain ⟨_, f22⟩ := c.t.d.def_ 22 (d := d_Wood_copied) rfl
  obtain ⟨_, f23⟩ := c.t.d.def_ 23 (d := d_Wood_copies) rfl
  obtain ⟨_, f24⟩ := c.t.d.def_ 24 (d := d_Wood_places) rfl
  obtain ⟨_, f25⟩ := c.t.d.def_ 25 (d := d_Wood_calls) rfl
  obtain ⟨_, f26⟩ := c.t.d.def_ 26 (d := d_number_of) rfl
  obtain ⟨_, f27⟩ := c.t.d.def_ 27 (d := d_deed_of) rfl
  obtain ⟨_, f28⟩ := c.t.d.def_ 28 (d := d_done) rfl
  obtain ⟨_, f29⟩ := c.t.d.def_ 29 (d := d_answer) rfl
  obtain ⟨_, f30⟩ := c.t.d.def_ 30 (d := d_played) rfl
  obtain ⟨_, f31⟩ := c.t.d.def_ 31 (d := d_least_rooms) rfl
  obtain ⟨_, f32⟩ := c.t.d.def_ 32 (d := d_rooms_of) rfl
  obtain ⟨_, f33⟩ := c.t.d.def_ 33 (d := d_top) rfl
  obtain ⟨_, f34⟩ := c.t.d.def_ 34 (d := d_held) rfl
  obtain ⟨_, f35⟩ := c.t.d.def_ 35 (d := d_common) rfl
  obtain ⟨_, f36⟩ := c.t.d.def_ 36 (d := d_alone) rfl
  obtain ⟨_, f37⟩ := c.t.d.def_ 37 (d := d_l_dice) rfl
  obtain ⟨_, f38⟩ := c.t.d.def_ 38 (d := d_l_next) rfl
  obtain ⟨_, f39⟩ := c.t.d.def_ 39 (d := d_l_like) rfl
  obtain ⟨_, f40⟩ := c.t.d.def_ 40 (d := d_l_number) rfl
  obtain ⟨_, f41⟩ := c.t.d.def_ 41 (d := d_l_deed) rfl
  obtain ⟨_, f42⟩ := c.t.d.def_ 42 (d := d_l_does) rfl
  obtain ⟨_, f43⟩ := c.t.d.def_ 43 (d := d_l_wood) rfl
  obtain ⟨_, f44⟩ := c.t.d.def_ 44 (d := d_l_pile) rfl
  obtain ⟨_, f45⟩ := c.t.d.def_ 45 (d := d_l_swept) rfl
  obtain ⟨_, f46⟩ := c.t.d.def_ 46 (d := d_l_needs) rfl
  obtain ⟨_, f47⟩ := c.t.d.def_ 47 (d := d_l_free) rfl
  obtain ⟨_, f48⟩ := c.t.d.def_ 48 (d := d_l_price) rfl
  obtain ⟨_, f49⟩ := c.t.d.def_ 49 (d := d_l_call) rfl
  obtain ⟨_, f50⟩ := c.t.d.def_ 50 (d := d_l_put) rfl
  obtain ⟨_, f51⟩ := c.t.d.def_ 51 (d := d_l_fault) rfl
  obtain ⟨_, f52⟩ := c.t.d.def_ 52 (d := d_l_due) rfl
  obtain ⟨_, f53⟩ := c.t.d.def_ 53 (d := d_l_deep) rfl
  obtain ⟨_, f54⟩ := c.t.d.def_ 54 (d := d_l_is_wood) rfl
  obtain ⟨_, f55⟩ := c.t.d.def_ 55 (d := d_l_told) rfl
  obtain ⟨_, f56⟩ := c.t.d.def_ 56 (d := d_l_works) rfl
  obtain ⟨_, f57⟩ := c.t.d.def_ 57 (d := d_l_counts) rfl
  obtain ⟨_, f58⟩ := c.t.d.def_ 58 (d := d_law) rfl
  exact {
    n_list := He.free_ok X G (c.t.d.fact 0 (f := .free "list") rfl)
    i_MOST_HANDS := He.int_ok X G (c.t.d.fact 1 (f := .int "MOST_HANDS" 6) rfl)
    i_MOST_ROOMS := He.int_ok X G (c.t.d.fact 2 (f := .int "MOST_ROOMS" 40) rfl)
    g_BadWood := He.glo_ok X G (c.t.d.fact 3 (f := .glo "BadWood") rfl)
    n_range := He.free_ok X G (c.t.d.fact 4 (f := .free "range") rfl)
    n_len := He.free_ok X G (c.t.d.fact 5 (f := .free "len") rfl)
    g_NoHand := He.glo_ok X G (c.t.d.fact 6 (f := .glo "NoHand") rfl)
    g_NoPlace := He.glo_ok X G (c.t.d.fact 7 (f := .glo "NoPlace") rfl)
    n_min := He.free_ok X G (c.t.d.fact 8 (f := .free "min") rfl)
    g_NoRoom := He.glo_ok X G (c.t.d.fact 9 (f := .glo "NoRoom") rfl)
    i_MOST_VALUES := He.int_ok X G (c.t.d.fact 10 (f := .int "MOST_VALUES" 3) rfl)
    g_NoSlot := He.glo_ok X G (c.t.d.fact 11 (f := .glo "NoSlot") rfl)
    g_Frame := He.glo_ok X G (c.t.d.fact 12 (f := .glo "Frame") rfl)
    g_NoCall := He.glo_ok X G (c.t.d.fact 13 (f := .glo "NoCall") rfl)
    n_reversed := He.free_ok X G (c.t.d.fact 14 (f := .free "reversed") rfl)
    n_sorted := He.free_ok X G (c.t.d.fact 15 (f := .free "sorted") rfl)
    i_MOST_FIGURES := He.int_ok X G (c.t.d.fact 16 (f := .int "MOST_FIGURES" 6) rfl)
    n_int := He.free_ok X G (c.t.d.fact 17 (f := .free "int") rfl)
    g_COUNTS := He.glo_ok X G (c.t.d.fact 18 (f := .glo "COUNTS") rfl)
    n_str := He.free_ok X G (c.t.d.fact 19 (f := .free "str") rfl)
    g_deed_of := He.glo_ok X G (c.t.d.fact 20 (f := .glo "deed_of") rfl)
    g_done := He.glo_ok X G (c.t.d.fact 21 (f := .glo "done") rfl)
    g_Wood := He.glo_ok X G (c.t.d.fact 22 (f := .glo "Wood") rfl)
    g_answer := He.glo_ok X G (c.t.d.fact 23 (f := .glo "answer") rfl)
    n_max := He.free_ok X G (c.t.d.fact 24 (f := .free "max") rfl)
    n_dict := He.free_ok X G (c.t.d.fact 25 (f := .free "dict") rfl)
    g_rooms_of := He.glo_ok X G (c.t.d.fact 26 (f := .glo "rooms_of") rfl)
    g_top := He.glo_ok X G (c.t.d.fact 27 (f := .glo "top") rfl)
    n_isinstance := He.free_ok X G (c.t.d.fact 28 (f := .free "isinstance") rfl)
    n_bool := He.free_ok X G (c.t.d.fact 29 (f := .free "bool") rfl)
    n_tuple := He.free_ok X G (c.t.d.fact 30 (f := .free "tuple") rfl)
    g__law_like := He.glo_ok X G (c.t.d.fact 31 (f := .glo "_law_like") rfl)
    g__law_next := He.glo_ok X G (c.t.d.fact 32 (f := .glo "_law_next") rfl)
    g__law_number := He.glo_ok X G (c.t.d.fact 33 (f := .glo "_law_number") rfl)
    g__law_pile := He.glo_ok X G (c.t.d.fact 34 (f := .glo "_law_pile") rfl)
    g__law_free := He.glo_ok X G (c.t.d.fact 35 (f := .glo "_law_free") rfl)
    g__law_price := He.glo_ok X G (c.t.d.fact 36 (f := .glo "_law_price") rfl)
    g__law_fault := He.glo_ok X G (c.t.d.fact 37 (f := .glo "_law_fault") rfl)
    g__law_call := He.glo_ok X G (c.t.d.fact 38 (f := .glo "_law_call") rfl)
    g__law_put := He.glo_ok X G (c.t.d.fact 39 (f := .glo "_law_put") rfl)
    g__law_swept := He.glo_ok X G (c.t.d.fact 40 (f := .glo "_law_swept") rfl)
    g__law_needs := He.glo_ok X G (c.t.d.fact 41 (f := .glo "_law_needs") rfl)
    g_WoodError := He.glo_ok X G (c.t.d.fact 42 (f := .glo "WoodError") rfl)
    n_ValueError := He.free_ok X G (c.t.d.fact 43 (f := .free "ValueError") rfl)
    g__law_dice := He.glo_ok X G (c.t.d.fact 44 (f := .glo "_law_dice") rfl)
    g__law_counts := He.glo_ok X G (c.t.d.fact 45 (f := .glo "_law_counts") rfl)
    g__law_wood := He.glo_ok X G (c.t.d.fact 46 (f := .glo "_law_wood") rfl)
    g__law_deed := He.glo_ok X G (c.t.d.fact 47 (f := .glo "_law_deed") rfl)
    g__law_deep := He.glo_ok X G (c.t.d.fact 48 (f := .glo "_law_deep") rfl)
    g__law_told := He.glo_ok X G (c.t.d.fact 49 (f := .glo "_law_told") rfl)
    g__law_due := He.glo_ok X G (c.t.d.fact 50 (f := .glo "_law_due") rfl)
    g__law_works := He.glo_ok X G (c.t.d.fact 51 (f := .glo "_law_works") rfl)
    g__law_is_wood := He.glo_ok X G (c.t.d.fact 52 (f := .glo "_law_is_wood") rfl)
    c_FIGURES := He.str_ok X G (c.t.d.fact 53 (f := .str "FIGURES" "0123456789") rfl)
    g_number_of := He.glo_ok X G (c.t.d.fact 54 (f := .glo "number_of") rfl)
    g_held := He.glo_ok X G (c.t.d.fact 55 (f := .glo "held") rfl)
    g_common := He.glo_ok X G (c.t.d.fact 56 (f := .glo "common") rfl)
    g_alone := He.glo_ok X G (c.t.d.fact 57 (f := .glo "alone") rfl)
    g_played := He.glo_ok X G (c.t.d.fact 58 (f := .glo "played") rfl)
    g_least_rooms := He.glo_ok X G (c.t.d.fact 59 (f := .glo "least_rooms") rfl)
    g__law_does := He.glo_ok X G (c.t.d.fact 60 (f := .glo "_law_does") rfl)
    g_law := He.glo_ok X G (c.t.d.fact 61 (f := .glo "law") rfl)
    x_BadWood := He.exc_ok (c.t.d.fact 62 (f := .exc "BadWood") rfl)
    xm_BadWood := He.exm_ok (c.t.d.fact 63 (f := .exm "BadWood" "WoodError" true) rfl)
    x_NoHand := He.exc_ok (c.t.d.fact 64 (f := .exc "NoHand") rfl)
    xm_NoHand := He.exm_ok (c.t.d.fact 65 (f := .exm "NoHand" "WoodError" true) rfl)
    x_NoPlace := He.exc_ok (c.t.d.fact 66 (f := .exc "NoPlace") rfl)
    xm_NoPlace := He.exm_ok (c.t.d.fact 67 (f := .exm "NoPlace" "WoodError" true) rfl)
    x_NoCall := He.exc_ok (c.t.d.fact 68 (f := .exc "NoCall") rfl)
    xm_NoCall := He.exm_ok (c.t.d.fact 69 (f := .exm "NoCall" "WoodError" true) rfl)
    x_NoSlot := He.exc_ok (c.t.d.fact 70 (f := .exc "NoSlot") rfl)
    xm_NoSlot := He.exm_ok (c.t.d.fact 71 (f := .exm "NoSlot" "WoodError" true) rfl)
    x_NoRoom := He.exc_ok (c.t.d.fact 72 (f := .exc "NoRoom") rfl)
    xm_NoRoom := He.exm_ok (c.t.d.fact 73 (f := .exm "NoRoom" "WoodError" true) rfl)
    cl_Frame := He.cls_ok (c.t.d.fact 74 (f := .cls "Frame") rfl)
    mk_Frame := He.mkr_ok (c.t.d.fact 75 (f := .mkr "Frame") rfl)
    a_below := He.noat_ok (c.t.d.fact 76 (f := .noat "Frame" "below") rfl)
    a_slots := He.noat_ok (c.t.d.fact 77 (f := .noat "Frame" "slots") rfl)
    a_needs := He.noat_ok (c.t.d.fact 78 (f := .noat "Frame" "needs") rfl)
    cl_Wood := He.cls_ok (c.t.d.fact 79 (f := .cls "Wood") rfl)
    mk_Wood := He.mkr_ok (c.t.d.fact 80 (f := .mkr "Wood") rfl)
    a_rooms := He.noat_ok (c.t.d.fact 81 (f := .noat "Wood" "rooms") rfl)
    a_frames := He.noat_ok (c.t.d.fact 82 (f := .noat "Wood" "frames") rfl)
    a_tops := He.noat_ok (c.t.d.fact 83 (f := .noat "Wood" "tops") rfl)
    a_marks := He.noat_ok (c.t.d.fact 84 (f := .noat "Wood" "marks") rfl)
    a_many := He.noat_ok (c.t.d.fact 85 (f := .noat "Wood" "many") rfl)
    a_made := He.noat_ok (c.t.d.fact 86 (f := .noat "Wood" "made") rfl)
    m_need_hand := He.meth_ok (c.t.d.fact 87 (f := .meth "Wood" "need_hand") rfl)
    m_need_place := He.meth_ok (c.t.d.fact 88 (f := .meth "Wood" "need_place") rfl)
    m_hands := He.meth_ok (c.t.d.fact 89 (f := .meth "Wood" "hands") rfl)
    m_path := He.meth_ok (c.t.d.fact 90 (f := .meth "Wood" "path") rfl)
    m_new_room := He.meth_ok (c.t.d.fact 91 (f := .meth "Wood" "new_room") rfl)
    m_need_free := He.meth_ok (c.t.d.fact 92 (f := .meth "Wood" "need_free") rfl)
    m_want := He.meth_ok (c.t.d.fact 93 (f := .meth "Wood" "want") rfl)
    m_leave := He.meth_ok (c.t.d.fact 94 (f := .meth "Wood" "leave") rfl)
    m_call := He.meth_ok (c.t.d.fact 95 (f := .meth "Wood" "call") rfl)
    m_back := He.meth_ok (c.t.d.fact 96 (f := .meth "Wood" "back") rfl)
    m_turn_to := He.meth_ok (c.t.d.fact 97 (f := .meth "Wood" "turn_to") rfl)
    m_branch := He.meth_ok (c.t.d.fact 98 (f := .meth "Wood" "branch") rfl)
    m_keep := He.meth_ok (c.t.d.fact 99 (f := .meth "Wood" "keep") rfl)
    m_leap := He.meth_ok (c.t.d.fact 100 (f := .meth "Wood" "leap") rfl)
    m_forget := He.meth_ok (c.t.d.fact 101 (f := .meth "Wood" "forget") rfl)
    m_look := He.meth_ok (c.t.d.fact 102 (f := .meth "Wood" "look") rfl)
    m_glance := He.meth_ok (c.t.d.fact 103 (f := .meth "Wood" "glance") rfl)
    m_way := He.meth_ok (c.t.d.fact 104 (f := .meth "Wood" "way") rfl)
    m_price := He.meth_ok (c.t.d.fact 105 (f := .meth "Wood" "price") rfl)
    m_put := He.meth_ok (c.t.d.fact 106 (f := .meth "Wood" "put") rfl)
    m_copied := He.meth_ok (c.t.d.fact 107 (f := .meth "Wood" "copied") rfl)
    m_copies := He.meth_ok (c.t.d.fact 108 (f := .meth "Wood" "copies") rfl)
    m_places := He.meth_ok (c.t.d.fact 109 (f := .meth "Wood" "places") rfl)
    m_calls := He.meth_ok (c.t.d.fact 110 (f := .meth "Wood" "calls") rfl)
    F_Frame_init := fnT_of f0
    F_Wood_init := fnT_of f1
    F_Wood_need_hand := fnT_of f2
    F_Wood_need_place := fnT_of f3
    F_Wood_hands := fnT_of f4
    F_Wood_path := fnT_of f5
    F_Wood_new_room := fnT_of f6
    F_Wood_need_free := fnT_of f7
    F_Wood_want := fnT_of f8
    F_Wood_leave := fnT_of f9
    F_Wood_call := fnT_of f10
    F_Wood_back := fnT_of f11
    F_Wood_turn_to := fnT_of f12
    F_Wood_branch := fnT_of f13
    F_Wood_keep := fnT_of f14
    F_Wood_leap := fnT_of f15
    F_Wood_forget := fnT_of f16
    F_Wood_look := fnT_of f17
    F_Wood_glance := fnT_of f18
    F_Wood_way := fnT_of f19
    F_Wood_price := fnT_of f20
    F_Wood_put := fnT_of f21
    F_Wood_copied := fnT_of f22
    F_Wood_copies := fnT_of f23
    F_Wood_places := fnT_of f24
    F_Wood_calls := fnT_of f25
    F_number_of := fnT_of f26
    F_deed_of := fnT_of f27
    F_done := fnT_of f28
    F_answer := fnT_of f29
    F_played := fnT_of f30
    F_least_rooms := fnT_of f31
    F_rooms_of := fnT_of f32
    F_top := fnT_of f33
    F_held := fnT_of f34
    F_common := fnT_of f35
    F_alone := fnT_of f36
    F_l_dice := fnT_of f37
    F_l_next := fnT_of f38
    F_l_like := fnT_of f39
    F_l_number := fnT_of f40
    F_l_deed := fnT_of f41
    F_l_does := fnT_of f42
    F_l_wood := fnT_of f43
    F_l_pile := fnT_of f44
    F_l_swept := fnT_of f45
    F_l_needs := fnT_of f46
    F_l_free := fnT_of f47
    F_l_price := fnT_of f48
    F_l_call := fnT_of f49
    F_l_put := fnT_of f50
    F_l_fault := fnT_of f51
    F_l_due := fnT_of f52
    F_l_deep := fnT_of f53
    F_l_is_wood := fnT_of f54
    F_l_told := fnT_of f55
    F_l_works := fnT_of f56
    F_l_counts := fnT_of f57
    F_law := fnT_of f58
    exC := q1
    exV := q2
    exX := q3
    exM := q0 }
theorem txtB_of {K : PySem.W.Frag} {w : World} {h : Heap} (c : He.SaysX faL fnL tbL tfL exK w h K) : TxtB K w := by
  have hs : ∀ x ∈ exN, PySem.W.subIn K (.ref (He.ga K x)) (.type "BaseException") = some true := List.forall_mem_cons.mpr ⟨(He.exc_ok (c.t.d.fact 62 (f := .exc "BadWood") rfl)).2.2.1, List.forall_mem_cons.mpr ⟨(He.exc_ok (c.t.d.fact 64 (f := .exc "NoHand") rfl)).2.2.1, List.forall_mem_cons.mpr ⟨(He.exc_ok (c.t.d.fact 66 (f := .exc "NoPlace") rfl)).2.2.1, List.forall_mem_cons.mpr ⟨(He.exc_ok (c.t.d.fact 68 (f := .exc "NoCall") rfl)).2.2.1, List.forall_mem_cons.mpr ⟨(He.exc_ok (c.t.d.fact 70 (f := .exc "NoSlot") rfl)).2.2.1, List.forall_mem_cons.mpr ⟨(He.exc_ok (c.t.d.fact 72 (f := .exc "NoRoom") rfl)).2.2.1, fun _ z => absurd z List.not_mem_nil⟩⟩⟩⟩⟩⟩
  obtain ⟨q0, _⟩ := ex_all c.more hs
  have e : tbL.map (fun t => He.dicW K (t.1 K)) = tbL.map fun t => some (He.keysIn w.params t.2) := congrArg (fun z : He.AlT => z.2) c.t
  obtain ⟨p1, p2⟩ := Bool.and_eq_true_iff.mp q0
  obtain ⟨p3, p4⟩ := Bool.and_eq_true_iff.mp p2
  exact ⟨(List.cons.inj e).1, p1, of_decide_eq_true p3, of_decide_eq_true (Bool.and_eq_true_iff.mp p4).1, (Bool.and_eq_true_iff.mp p4).2⟩
theorem law_at {K : PySem.W.Frag} {h : Heap} {mg : Str → Option Value} {w : World} (X : K.In h) (G : h.Ns mainGlobals mg) (c : He.SaysX faL fnL tbL tfL exK w h K) : LamX.LawAtS PySem.Challenge.rw_stackwood_k01_what_is_none w K L2.CX0 12 63 "_law_script" mg (He.ga K "law") h := by
  have T := txt_of X G c
  have inT : ∀ p ∈ tfL.map (He.cT K), ∃ q ∈ tfL, He.cT K q = p := fun p hp => List.mem_map.mp hp
  refine ⟨fdOf K (aG K "law"), tfL.map (He.cT K), spLaw1 K (TT3 K), fun p hp => ?_, fun p hp => ?_, fun p hp => ?_, fun s u => ?_, fun H a ns hl _ hT hS => ?_, fun base hK hG hTB => ?_⟩
  · obtain ⟨q, hq, rfl⟩ := inT p hp
    exact c.empty q hq
  · obtain ⟨q, hq, rfl⟩ := inT p hp
    exact c.out q hq
  · obtain ⟨q, hq, rfl⟩ := inT p hp
    exact PySem.W.codeHd_of_K X (c.hd q hq)
  · exact FunD.bindsA (ps := ["_law_script"]) T.F_law (fun _ _ _ _ _ _ us hl => match us, hl with | [_], _ => rfl) s [u] rfl
  · refine ⟨a, ns, rfl, hS, hl, fun p hp => ?_, fun _ => rfl⟩
    unfold TT3 at hp
    simp only [List.mem_cons, List.not_mem_nil, or_false] at hp
    rcases hp with rfl | rfl | rfl
    · exact LamX.TabS.nil (hT _ (List.mem_map.mpr ⟨_, (show (("law" : Str), (none : Option Str)) ∈ tfL by unfold tfL; simp), rfl⟩))
    · exact LamX.TabS.nil (hT _ (List.mem_map.mpr ⟨_, (show (("_law_counts" : Str), (none : Option Str)) ∈ tfL by unfold tfL; simp), rfl⟩))
    · exact LamX.TabS.nil (hT _ (List.mem_map.mpr ⟨_, (show (("_law_works" : Str), (none : Option Str)) ∈ tfL by unfold tfL; simp), rfl⟩))
  · exact ok_law T (txtB_of c) (hTB _ (List.mem_map.mpr ⟨_, (show (("law" : Str), (none : Option Str)) ∈ tfL by unfold tfL; simp), rfl⟩)) (hTB _ (List.mem_map.mpr ⟨_, (show (("_law_counts" : Str), (none : Option Str)) ∈ tfL by unfold tfL; simp), rfl⟩)) (hTB _ (List.mem_map.mpr ⟨_, (show (("_law_works" : Str), (none : Option Str)) ∈ tfL by unfold tfL; simp), rfl⟩))
end Sk
open PySem PySem.W PySem.Calls PyProof.Rows
theorem PySem.Challenge.cw_stackwood_k01_what_is_none_holds : PySem.Challenge.rw_stackwood_k01_what_is_none.Holds := by
  w_on; o_law
  refine HandSHeadRun.head_any (r := OpenLaw.row PySem.Challenge.rw_stackwood_k01_what_is_none) (q := view (OpenLaw.row PySem.Challenge.rw_stackwood_k01_what_is_none).prog [52]) (H := Sk.hk) (ob := Sk.ob) (M := 4000) (loose := Sk.looseL) (d := HandSHeadRun.topDef (OpenLaw.row PySem.Challenge.rw_stackwood_k01_what_is_none).prog 52) (kwd := []) Sk.ob_eq
    (by kernel_rfl) (fun s => by kernel_rfl) Sk.run (by kernel_rfl) (by kernel_rfl) (by kernel_rfl) (by rfl) (by first | assumption | decide +kernel) (by decide +kernel) ⟨rfl, rfl, rfl, rfl, rfl, by decide +kernel⟩ ?hw ?hc
  case hw => w_witness2
  case hc =>
    refine LamX.walk_ofTsE (l := PySem.Challenge.rw_stackwood_k01_what_is_none) (n := 63) (k := 12) (x := "_law_script") (CX := fun _ => L2.CX0) rfl (by decide) (by kernel_rfl) ⟨rfl, by decide, by decide⟩ ?F (fun _ _ _ _ _ z => z)
    intro w mg fa h Y G hmg0
    obtain ⟨K, KX, c⟩ := Y
    have hmg : mg ("law" : PySem.Str) = some (.ref fa) := by
      have e : (HandSHeadRun.topDef (OpenLaw.row PySem.Challenge.rw_stackwood_k01_what_is_none).prog 52).name = ("law" : PySem.Str) := by kernel_rfl
      rw [← e]
      exact hmg0
    have T := Sk.txt_of KX G c
    have e := hmg.symm.trans T.g_law
    cases e
    exact ⟨K, KX, Sk.law_at KX G c⟩
end
