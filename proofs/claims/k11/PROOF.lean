import PyProof.Rows.All
import Wide.All
import OpenK.AllK
import Wide.FinOn
import KE.KStateDown
import KE.KIsAll
import HandS.ForMost
import HandS.ForExc
import HandS.Wide
import HandS.IsInst
import HandS.ExcIs
import HandS.Lambda
import HandS.EndTab
import HandS.HeadWalk
import HandS.Head2
import HandS.HeadHook4
import HandS.Steps
import HandS.More
import PySem.Challenge.RW_stackwood_k11_known_edges
import HandS.SortInts
import KE.KDflt
import HandS.Zip
import HandS.SetFor
import HandS.Strs
import HandS.Style
import HandS.Conv
set_option Elab.async false
set_option linter.all false
set_option maxRecDepth 100000
set_option maxHeartbeats 2000000
section
/-! SwTxt of law_k11_known_edges: the text by places, its scopes, what the top leaves. -/
namespace Sk
open PySem PySem.Spec PyProof.Rows L2
def topS (i : Nat) : Stmt := PySem.Challenge.pw_stackwood_k11_known_edges.main.body.getD i (.Pass ⟨0, 0, 0, 0⟩)
abbrev s_used : Stmt := topS 2
abbrev s_rooms_of : Stmt := topS 3
abbrev s_top : Stmt := topS 4
abbrev s_held : Stmt := topS 5
abbrev s_common : Stmt := topS 6
abbrev s_Frame_init : Stmt := inClass (topS 18) 0
abbrev s_Wood_init : Stmt := inClass (topS 19) 0
abbrev s_Wood_need_hand : Stmt := inClass (topS 19) 1
abbrev s_Wood_hands : Stmt := inClass (topS 19) 3
abbrev s_Wood_path : Stmt := inClass (topS 19) 4
abbrev s_Wood_new_room : Stmt := inClass (topS 19) 5
abbrev s_Wood_need_free : Stmt := inClass (topS 19) 6
abbrev s_Wood_want : Stmt := inClass (topS 19) 7
abbrev s_Wood_leave : Stmt := inClass (topS 19) 8
abbrev s_Wood_call : Stmt := inClass (topS 19) 9
abbrev s_Wood_back : Stmt := inClass (topS 19) 10
abbrev s_Wood_turn_to : Stmt := inClass (topS 19) 11
abbrev s_Wood_branch : Stmt := inClass (topS 19) 12
abbrev s_Wood_way : Stmt := inClass (topS 19) 18
abbrev s_Wood_put : Stmt := inClass (topS 19) 20
abbrev s_Wood_copied : Stmt := inClass (topS 19) 21
abbrev s_Wood_copies : Stmt := inClass (topS 19) 22
abbrev s_Wood_places : Stmt := inClass (topS 19) 23
abbrev s_Wood_calls : Stmt := inClass (topS 19) 24
abbrev s_l_dice : Stmt := topS 21
abbrev s_l_next : Stmt := topS 22
abbrev s_l_told : Stmt := topS 23
abbrev s_law : Stmt := topS 24
theorem sc_used : FnScope ["wood"] ["wood"] (defScope s_used) := ⟨rfl, rfl, rfl, by decide +kernel, rfl, by decide +kernel, by decide +kernel⟩
theorem sc_rooms_of : FnScope ["wood", "room", "below", "found", "call"] ["wood", "room"] (defScope s_rooms_of) := ⟨rfl, rfl, rfl, by decide +kernel, rfl, by decide +kernel, by decide +kernel⟩
theorem sc_top : FnScope ["wood", "hand"] ["wood", "hand"] (defScope s_top) := ⟨rfl, rfl, rfl, by decide +kernel, rfl, by decide +kernel, by decide +kernel⟩
theorem sc_held : FnScope ["wood", "some", "found", "hand", "room"] ["wood", "some"] (defScope s_held) := ⟨rfl, rfl, rfl, by decide +kernel, rfl, by decide +kernel, by decide +kernel⟩
theorem sc_common : FnScope ["wood", "hand", "other", "mine", "theirs", "room"] ["wood", "hand", "other"] (defScope s_common) := ⟨rfl, rfl, rfl, by decide +kernel, rfl, by decide +kernel, by decide +kernel⟩
theorem sc_Frame_init : FnScope ["self", "below", "slots"] ["self", "below", "slots"] (defScope s_Frame_init) := ⟨rfl, rfl, rfl, by decide +kernel, rfl, by decide +kernel, by decide +kernel⟩
theorem sc_Wood_init : FnScope ["self", "hands", "rooms", "hand"] ["self", "hands", "rooms"] (defScope s_Wood_init) := ⟨rfl, rfl, rfl, by decide +kernel, rfl, by decide +kernel, by decide +kernel⟩
theorem sc_Wood_need_hand : FnScope ["self", "hand"] ["self", "hand"] (defScope s_Wood_need_hand) := ⟨rfl, rfl, rfl, by decide +kernel, rfl, by decide +kernel, by decide +kernel⟩
theorem sc_Wood_hands : FnScope ["self"] ["self"] (defScope s_Wood_hands) := ⟨rfl, rfl, rfl, by decide +kernel, rfl, by decide +kernel, by decide +kernel⟩
theorem sc_Wood_path : FnScope ["self", "room", "found"] ["self", "room"] (defScope s_Wood_path) := ⟨rfl, rfl, rfl, by decide +kernel, rfl, by decide +kernel, by decide +kernel⟩
theorem sc_Wood_new_room : FnScope ["self", "room"] ["self"] (defScope s_Wood_new_room) := ⟨rfl, rfl, rfl, by decide +kernel, rfl, by decide +kernel, by decide +kernel⟩
theorem sc_Wood_need_free : FnScope ["self", "many"] ["self", "many"] (defScope s_Wood_need_free) := ⟨rfl, rfl, rfl, by decide +kernel, rfl, by decide +kernel, by decide +kernel⟩
theorem sc_Wood_want : FnScope ["self", "room"] ["self", "room"] (defScope s_Wood_want) := ⟨rfl, rfl, rfl, by decide +kernel, rfl, by decide +kernel, by decide +kernel⟩
theorem sc_Wood_leave : FnScope ["self", "room", "frame"] ["self", "room"] (defScope s_Wood_leave) := ⟨rfl, rfl, rfl, by decide +kernel, rfl, by decide +kernel, by decide +kernel⟩
theorem sc_Wood_call : FnScope ["self", "hand", "values", "room"] ["self", "hand", "values"] (defScope s_Wood_call) := ⟨rfl, rfl, rfl, by decide +kernel, rfl, by decide +kernel, by decide +kernel⟩
theorem sc_Wood_back : FnScope ["self", "hand", "top", "values"] ["self", "hand"] (defScope s_Wood_back) := ⟨rfl, rfl, rfl, by decide +kernel, rfl, by decide +kernel, by decide +kernel⟩
theorem sc_Wood_turn_to : FnScope ["self", "hand", "room"] ["self", "hand", "room"] (defScope s_Wood_turn_to) := ⟨rfl, rfl, rfl, by decide +kernel, rfl, by decide +kernel, by decide +kernel⟩
theorem sc_Wood_branch : FnScope ["self", "hand", "other"] ["self", "hand", "other"] (defScope s_Wood_branch) := ⟨rfl, rfl, rfl, by decide +kernel, rfl, by decide +kernel, by decide +kernel⟩
theorem sc_Wood_way : FnScope ["self", "hand", "depth", "path", "shared", "at"] ["self", "hand", "depth"] (defScope s_Wood_way) := ⟨rfl, rfl, rfl, by decide +kernel, rfl, by decide +kernel, by decide +kernel⟩
theorem sc_Wood_put : FnScope ["self", "hand", "depth", "slot", "value", "path", "first", "room"] ["self", "hand", "depth", "slot", "value"] (defScope s_Wood_put) := ⟨rfl, rfl, rfl, by decide +kernel, rfl, by decide +kernel, by decide +kernel⟩
theorem sc_Wood_copied : FnScope ["self", "hand", "path", "first", "below", "rooms", "old", "room"] ["self", "hand", "path", "first"] (defScope s_Wood_copied) := ⟨rfl, rfl, rfl, by decide +kernel, rfl, by decide +kernel, by decide +kernel⟩
theorem sc_Wood_copies : FnScope ["self"] ["self"] (defScope s_Wood_copies) := ⟨rfl, rfl, rfl, by decide +kernel, rfl, by decide +kernel, by decide +kernel⟩
theorem sc_Wood_places : FnScope ["self"] ["self"] (defScope s_Wood_places) := ⟨rfl, rfl, rfl, by decide +kernel, rfl, by decide +kernel, by decide +kernel⟩
theorem sc_Wood_calls : FnScope ["self", "found", "room", "frame"] ["self"] (defScope s_Wood_calls) := ⟨rfl, rfl, rfl, by decide +kernel, rfl, by decide +kernel, by decide +kernel⟩
theorem sc_l_dice : FnScope ["_law_script", "_law_mixed", "_law_cell"] ["_law_script"] (defScope s_l_dice) := ⟨rfl, rfl, rfl, by decide +kernel, rfl, by decide +kernel, by decide +kernel⟩
theorem sc_l_next : FnScope ["_law_dice_here", "_law_many", "_law_found", "_law_cell"] ["_law_dice_here", "_law_many"] (defScope s_l_next) := ⟨rfl, rfl, rfl, by decide +kernel, rfl, by decide +kernel, by decide +kernel⟩
theorem sc_l_told : FnScope ["_law_work", "_law_e", "_law_kinds"] ["_law_work"] (defScope s_l_told) := ⟨rfl, rfl, rfl, by decide +kernel, rfl, by decide +kernel, by decide +kernel⟩
theorem sc_law : FnScope ["_law_script", "_law_d", "_law_k", "_law_found", "_law_many", "_law_own", "_law_hand", "_law_some", "_law_hands", "_law_one", "_law_other", "_law_rooms", "_law_wood"] ["_law_script"] (defScope s_law) := ⟨rfl, rfl, rfl, by decide +kernel, rfl, by decide +kernel, by decide +kernel⟩
/-- the function object at f -/
def fdOf (K : PySem.W.Frag) (f : Addr) : FuncData := match K.lookup f with
  | some ⟨_, _, .func fd, _⟩ => fd
  | _ => PySem.W.fnOf "" "" (defArgs (topS 0)) [] (defScope (topS 0)) .none .none .none .none none .none .none
abbrev FnT (K : PySem.W.Frag) (p : Str × Option Str) (name qual : Str) (st : Stmt) : Prop := FunD K name qual (defArgs st) (defBody st) (defScope st) [] [] (He.fAd K p) (fdOf K (He.fAd K p))
def exN : List Str := ["BadWood", "NoHand", "NoCall", "NoSlot", "NoRoom"]
structure Txt (K : PySem.W.Frag) (mg : Str → Option Value) : Prop where
  n_len : mg "len" = none
  n_dict : mg "dict" = none
  g_rooms_of : mg "rooms_of" = some (.ref (He.ga K "rooms_of"))
  g_top : mg "top" = some (.ref (He.ga K "top"))
  n_list : mg "list" = none
  i_MOST_HANDS : ∃ t, mg "MOST_HANDS" = some (.int 6 t)
  i_MOST_ROOMS : ∃ t, mg "MOST_ROOMS" = some (.int 40 t)
  g_BadWood : mg "BadWood" = some (.ref (He.ga K "BadWood"))
  n_range : mg "range" = none
  g_NoHand : mg "NoHand" = some (.ref (He.ga K "NoHand"))
  n_min : mg "min" = none
  g_NoRoom : mg "NoRoom" = some (.ref (He.ga K "NoRoom"))
  i_MOST_VALUES : ∃ t, mg "MOST_VALUES" = some (.int 3 t)
  g_NoSlot : mg "NoSlot" = some (.ref (He.ga K "NoSlot"))
  g_Frame : mg "Frame" = some (.ref (He.ga K "Frame"))
  g_NoCall : mg "NoCall" = some (.ref (He.ga K "NoCall"))
  n_reversed : mg "reversed" = none
  n_sorted : mg "sorted" = none
  n_int : mg "int" = none
  g_WoodError : mg "WoodError" = some (.ref (He.ga K "WoodError"))
  n_isinstance : mg "isinstance" = none
  g__law_dice : mg "_law_dice" = some (.ref (He.ga K "_law_dice"))
  g__law_next : mg "_law_next" = some (.ref (He.ga K "_law_next"))
  g_Wood : mg "Wood" = some (.ref (He.ga K "Wood"))
  g__law_told : mg "_law_told" = some (.ref (He.ga K "_law_told"))
  g_held : mg "held" = some (.ref (He.ga K "held"))
  n_sum : mg "sum" = none
  n_set : mg "set" = none
  g_common : mg "common" = some (.ref (He.ga K "common"))
  g_used : mg "used" = some (.ref (He.ga K "used"))
  g_law : mg "law" = some (.ref (He.ga K "law"))
  x_BadWood : PySem.W.excIn K (He.ga K "BadWood") He.veBase "ValueError.__new__" = true ∧ PySem.W.keepIn K (.ref (He.ga K "BadWood")) = true ∧ PySem.W.subIn K (.ref (He.ga K "BadWood")) (.type "BaseException") = some true ∧ PySem.W.typeIn K (.ref (He.ga K "BadWood")) = some (.type "type")
  xm_BadWood : PySem.W.exmOne K (.ref (He.ga K "BadWood")) (.ref (He.ga K "WoodError")) = some true
  x_NoHand : PySem.W.excIn K (He.ga K "NoHand") He.veBase "ValueError.__new__" = true ∧ PySem.W.keepIn K (.ref (He.ga K "NoHand")) = true ∧ PySem.W.subIn K (.ref (He.ga K "NoHand")) (.type "BaseException") = some true ∧ PySem.W.typeIn K (.ref (He.ga K "NoHand")) = some (.type "type")
  xm_NoHand : PySem.W.exmOne K (.ref (He.ga K "NoHand")) (.ref (He.ga K "WoodError")) = some true
  x_NoCall : PySem.W.excIn K (He.ga K "NoCall") He.veBase "ValueError.__new__" = true ∧ PySem.W.keepIn K (.ref (He.ga K "NoCall")) = true ∧ PySem.W.subIn K (.ref (He.ga K "NoCall")) (.type "BaseException") = some true ∧ PySem.W.typeIn K (.ref (He.ga K "NoCall")) = some (.type "type")
  xm_NoCall : PySem.W.exmOne K (.ref (He.ga K "NoCall")) (.ref (He.ga K "WoodError")) = some true
  x_NoSlot : PySem.W.excIn K (He.ga K "NoSlot") He.veBase "ValueError.__new__" = true ∧ PySem.W.keepIn K (.ref (He.ga K "NoSlot")) = true ∧ PySem.W.subIn K (.ref (He.ga K "NoSlot")) (.type "BaseException") = some true ∧ PySem.W.typeIn K (.ref (He.ga K "NoSlot")) = some (.type "type")
  xm_NoSlot : PySem.W.exmOne K (.ref (He.ga K "NoSlot")) (.ref (He.ga K "WoodError")) = some true
  x_NoRoom : PySem.W.excIn K (He.ga K "NoRoom") He.veBase "ValueError.__new__" = true ∧ PySem.W.keepIn K (.ref (He.ga K "NoRoom")) = true ∧ PySem.W.subIn K (.ref (He.ga K "NoRoom")) (.type "BaseException") = some true ∧ PySem.W.typeIn K (.ref (He.ga K "NoRoom")) = some (.type "type")
  xm_NoRoom : PySem.W.exmOne K (.ref (He.ga K "NoRoom")) (.ref (He.ga K "WoodError")) = some true
  cl_Frame : Cls K (He.ga K "Frame")
  mk_Frame : Mk K (He.ga K "Frame") (He.ma K (He.ga K "Frame") "__init__")
  a_below : NoAttr K (He.ga K "Frame") "below"
  a_slots : NoAttr K (He.ga K "Frame") "slots"
  a_needs : NoAttr K (He.ga K "Frame") "needs"
  cl_Wood : Cls K (He.ga K "Wood")
  mk_Wood : Mk K (He.ga K "Wood") (He.ma K (He.ga K "Wood") "__init__")
  a_rooms : NoAttr K (He.ga K "Wood") "rooms"
  a_frames : NoAttr K (He.ga K "Wood") "frames"
  a_tops : NoAttr K (He.ga K "Wood") "tops"
  a_marks : NoAttr K (He.ga K "Wood") "marks"
  a_many : NoAttr K (He.ga K "Wood") "many"
  a_made : NoAttr K (He.ga K "Wood") "made"
  m_need_hand : Meth K (He.ga K "Wood") "need_hand" (He.ma K (He.ga K "Wood") "need_hand")
  m_hands : Meth K (He.ga K "Wood") "hands" (He.ma K (He.ga K "Wood") "hands")
  m_path : Meth K (He.ga K "Wood") "path" (He.ma K (He.ga K "Wood") "path")
  m_new_room : Meth K (He.ga K "Wood") "new_room" (He.ma K (He.ga K "Wood") "new_room")
  m_need_free : Meth K (He.ga K "Wood") "need_free" (He.ma K (He.ga K "Wood") "need_free")
  m_want : Meth K (He.ga K "Wood") "want" (He.ma K (He.ga K "Wood") "want")
  m_leave : Meth K (He.ga K "Wood") "leave" (He.ma K (He.ga K "Wood") "leave")
  m_call : Meth K (He.ga K "Wood") "call" (He.ma K (He.ga K "Wood") "call")
  m_back : Meth K (He.ga K "Wood") "back" (He.ma K (He.ga K "Wood") "back")
  m_turn_to : Meth K (He.ga K "Wood") "turn_to" (He.ma K (He.ga K "Wood") "turn_to")
  m_branch : Meth K (He.ga K "Wood") "branch" (He.ma K (He.ga K "Wood") "branch")
  m_way : Meth K (He.ga K "Wood") "way" (He.ma K (He.ga K "Wood") "way")
  m_put : Meth K (He.ga K "Wood") "put" (He.ma K (He.ga K "Wood") "put")
  m_copied : Meth K (He.ga K "Wood") "copied" (He.ma K (He.ga K "Wood") "copied")
  m_copies : Meth K (He.ga K "Wood") "copies" (He.ma K (He.ga K "Wood") "copies")
  m_places : Meth K (He.ga K "Wood") "places" (He.ma K (He.ga K "Wood") "places")
  m_calls : Meth K (He.ga K "Wood") "calls" (He.ma K (He.ga K "Wood") "calls")
  F_used : FnT K ("used", none) "used" "used" s_used
  F_rooms_of : FnT K ("rooms_of", none) "rooms_of" "rooms_of" s_rooms_of
  F_top : FnT K ("top", none) "top" "top" s_top
  F_held : FnT K ("held", none) "held" "held" s_held
  F_common : FnT K ("common", none) "common" "common" s_common
  F_Frame_init : FnT K ("Frame", some "__init__") "__init__" "Frame.__init__" s_Frame_init
  F_Wood_init : FnT K ("Wood", some "__init__") "__init__" "Wood.__init__" s_Wood_init
  F_Wood_need_hand : FnT K ("Wood", some "need_hand") "need_hand" "Wood.need_hand" s_Wood_need_hand
  F_Wood_hands : FnT K ("Wood", some "hands") "hands" "Wood.hands" s_Wood_hands
  F_Wood_path : FnT K ("Wood", some "path") "path" "Wood.path" s_Wood_path
  F_Wood_new_room : FnT K ("Wood", some "new_room") "new_room" "Wood.new_room" s_Wood_new_room
  F_Wood_need_free : FnT K ("Wood", some "need_free") "need_free" "Wood.need_free" s_Wood_need_free
  F_Wood_want : FnT K ("Wood", some "want") "want" "Wood.want" s_Wood_want
  F_Wood_leave : FnT K ("Wood", some "leave") "leave" "Wood.leave" s_Wood_leave
  F_Wood_call : FnT K ("Wood", some "call") "call" "Wood.call" s_Wood_call
  F_Wood_back : FnT K ("Wood", some "back") "back" "Wood.back" s_Wood_back
  F_Wood_turn_to : FnT K ("Wood", some "turn_to") "turn_to" "Wood.turn_to" s_Wood_turn_to
  F_Wood_branch : FnT K ("Wood", some "branch") "branch" "Wood.branch" s_Wood_branch
  F_Wood_way : FnT K ("Wood", some "way") "way" "Wood.way" s_Wood_way
  F_Wood_put : FnT K ("Wood", some "put") "put" "Wood.put" s_Wood_put
  F_Wood_copied : FnT K ("Wood", some "copied") "copied" "Wood.copied" s_Wood_copied
  F_Wood_copies : FnT K ("Wood", some "copies") "copies" "Wood.copies" s_Wood_copies
  F_Wood_places : FnT K ("Wood", some "places") "places" "Wood.places" s_Wood_places
  F_Wood_calls : FnT K ("Wood", some "calls") "calls" "Wood.calls" s_Wood_calls
  F_l_dice : FnT K ("_law_dice", none) "_law_dice" "_law_dice" s_l_dice
  F_l_next : FnT K ("_law_next", none) "_law_next" "_law_next" s_l_next
  F_l_told : FnT K ("_law_told", none) "_law_told" "_law_told" s_l_told
  F_law : FnT K ("law", none) "law" "law" s_law
  exC : ∀ x ∈ exN, ExcC K (He.ga K x)
  exV : ∀ x ∈ exN, PySem.W.kitOne K (.ref (He.ga K x)) (.type "ValueError") = some true
  exX : ∀ x ∈ exN, ∀ y ∈ exN, PySem.W.kitOne K (.ref (He.ga K x)) (.ref (He.ga K y)) = some (decide (x = y))
variable {K : PySem.W.Frag} {mg : Str → Option Value}
theorem Txt.b_used (T : Txt K mg) : Binds K (fdOf K (He.fAd K ("used", none))) ["wood"] [] := T.F_used.bindsN fun _ _ _ _ _ _ us hl => match us, hl with | [_], _ => rfl
theorem Txt.b_rooms_of (T : Txt K mg) : Binds K (fdOf K (He.fAd K ("rooms_of", none))) ["wood", "room"] [] := T.F_rooms_of.bindsN fun _ _ _ _ _ _ us hl => match us, hl with | [_, _], _ => rfl
theorem Txt.b_top (T : Txt K mg) : Binds K (fdOf K (He.fAd K ("top", none))) ["wood", "hand"] [] := T.F_top.bindsN fun _ _ _ _ _ _ us hl => match us, hl with | [_, _], _ => rfl
theorem Txt.b_held (T : Txt K mg) : Binds K (fdOf K (He.fAd K ("held", none))) ["wood", "some"] [] := T.F_held.bindsN fun _ _ _ _ _ _ us hl => match us, hl with | [_, _], _ => rfl
theorem Txt.b_common (T : Txt K mg) : Binds K (fdOf K (He.fAd K ("common", none))) ["wood", "hand", "other"] [] := T.F_common.bindsN fun _ _ _ _ _ _ us hl => match us, hl with | [_, _, _], _ => rfl
theorem Txt.b_Frame_init (T : Txt K mg) : Binds K (fdOf K (He.fAd K ("Frame", some "__init__"))) ["self", "below", "slots"] [] := T.F_Frame_init.bindsN fun _ _ _ _ _ _ us hl => match us, hl with | [_, _, _], _ => rfl
theorem Txt.b_Wood_init (T : Txt K mg) : Binds K (fdOf K (He.fAd K ("Wood", some "__init__"))) ["self", "hands", "rooms"] [] := T.F_Wood_init.bindsN fun _ _ _ _ _ _ us hl => match us, hl with | [_, _, _], _ => rfl
theorem Txt.b_Wood_need_hand (T : Txt K mg) : Binds K (fdOf K (He.fAd K ("Wood", some "need_hand"))) ["self", "hand"] [] := T.F_Wood_need_hand.bindsN fun _ _ _ _ _ _ us hl => match us, hl with | [_, _], _ => rfl
theorem Txt.b_Wood_hands (T : Txt K mg) : Binds K (fdOf K (He.fAd K ("Wood", some "hands"))) ["self"] [] := T.F_Wood_hands.bindsN fun _ _ _ _ _ _ us hl => match us, hl with | [_], _ => rfl
theorem Txt.b_Wood_path (T : Txt K mg) : Binds K (fdOf K (He.fAd K ("Wood", some "path"))) ["self", "room"] [] := T.F_Wood_path.bindsN fun _ _ _ _ _ _ us hl => match us, hl with | [_, _], _ => rfl
theorem Txt.b_Wood_new_room (T : Txt K mg) : Binds K (fdOf K (He.fAd K ("Wood", some "new_room"))) ["self"] [] := T.F_Wood_new_room.bindsN fun _ _ _ _ _ _ us hl => match us, hl with | [_], _ => rfl
theorem Txt.b_Wood_need_free (T : Txt K mg) : Binds K (fdOf K (He.fAd K ("Wood", some "need_free"))) ["self", "many"] [] := T.F_Wood_need_free.bindsN fun _ _ _ _ _ _ us hl => match us, hl with | [_, _], _ => rfl
theorem Txt.b_Wood_want (T : Txt K mg) : Binds K (fdOf K (He.fAd K ("Wood", some "want"))) ["self", "room"] [] := T.F_Wood_want.bindsN fun _ _ _ _ _ _ us hl => match us, hl with | [_, _], _ => rfl
theorem Txt.b_Wood_leave (T : Txt K mg) : Binds K (fdOf K (He.fAd K ("Wood", some "leave"))) ["self", "room"] [] := T.F_Wood_leave.bindsN fun _ _ _ _ _ _ us hl => match us, hl with | [_, _], _ => rfl
theorem Txt.b_Wood_call (T : Txt K mg) : Binds K (fdOf K (He.fAd K ("Wood", some "call"))) ["self", "hand", "values"] [] := T.F_Wood_call.bindsN fun _ _ _ _ _ _ us hl => match us, hl with | [_, _, _], _ => rfl
theorem Txt.b_Wood_back (T : Txt K mg) : Binds K (fdOf K (He.fAd K ("Wood", some "back"))) ["self", "hand"] [] := T.F_Wood_back.bindsN fun _ _ _ _ _ _ us hl => match us, hl with | [_, _], _ => rfl
theorem Txt.b_Wood_turn_to (T : Txt K mg) : Binds K (fdOf K (He.fAd K ("Wood", some "turn_to"))) ["self", "hand", "room"] [] := T.F_Wood_turn_to.bindsN fun _ _ _ _ _ _ us hl => match us, hl with | [_, _, _], _ => rfl
theorem Txt.b_Wood_branch (T : Txt K mg) : Binds K (fdOf K (He.fAd K ("Wood", some "branch"))) ["self", "hand", "other"] [] := T.F_Wood_branch.bindsN fun _ _ _ _ _ _ us hl => match us, hl with | [_, _, _], _ => rfl
theorem Txt.b_Wood_way (T : Txt K mg) : Binds K (fdOf K (He.fAd K ("Wood", some "way"))) ["self", "hand", "depth"] [] := T.F_Wood_way.bindsN fun _ _ _ _ _ _ us hl => match us, hl with | [_, _, _], _ => rfl
theorem Txt.b_Wood_put (T : Txt K mg) : Binds K (fdOf K (He.fAd K ("Wood", some "put"))) ["self", "hand", "depth", "slot", "value"] [] := T.F_Wood_put.bindsN fun _ _ _ _ _ _ us hl => match us, hl with | [_, _, _, _, _], _ => rfl
theorem Txt.b_Wood_copied (T : Txt K mg) : Binds K (fdOf K (He.fAd K ("Wood", some "copied"))) ["self", "hand", "path", "first"] [] := T.F_Wood_copied.bindsN fun _ _ _ _ _ _ us hl => match us, hl with | [_, _, _, _], _ => rfl
theorem Txt.b_Wood_copies (T : Txt K mg) : Binds K (fdOf K (He.fAd K ("Wood", some "copies"))) ["self"] [] := T.F_Wood_copies.bindsN fun _ _ _ _ _ _ us hl => match us, hl with | [_], _ => rfl
theorem Txt.b_Wood_places (T : Txt K mg) : Binds K (fdOf K (He.fAd K ("Wood", some "places"))) ["self"] [] := T.F_Wood_places.bindsN fun _ _ _ _ _ _ us hl => match us, hl with | [_], _ => rfl
theorem Txt.b_Wood_calls (T : Txt K mg) : Binds K (fdOf K (He.fAd K ("Wood", some "calls"))) ["self"] [] := T.F_Wood_calls.bindsN fun _ _ _ _ _ _ us hl => match us, hl with | [_], _ => rfl
theorem Txt.b_l_dice (T : Txt K mg) : Binds K (fdOf K (He.fAd K ("_law_dice", none))) ["_law_script"] [] := T.F_l_dice.bindsN fun _ _ _ _ _ _ us hl => match us, hl with | [_], _ => rfl
theorem Txt.b_l_next (T : Txt K mg) : Binds K (fdOf K (He.fAd K ("_law_next", none))) ["_law_dice_here", "_law_many"] [] := T.F_l_next.bindsN fun _ _ _ _ _ _ us hl => match us, hl with | [_, _], _ => rfl
theorem Txt.b_l_told (T : Txt K mg) : Binds K (fdOf K (He.fAd K ("_law_told", none))) ["_law_work"] [] := T.F_l_told.bindsN fun _ _ _ _ _ _ us hl => match us, hl with | [_], _ => rfl
theorem Txt.b_law (T : Txt K mg) : Binds K (fdOf K (He.fAd K ("law", none))) ["_law_script"] [] := T.F_law.bindsN fun _ _ _ _ _ _ us hl => match us, hl with | [_], _ => rfl
end Sk
end
section
/-! SwMath: the wood in plain Lean: rooms that stand on each other, counted; no program here. -/
namespace SW
structure Fr where
  below : Option Int
  slots : List Int
  needs : Int
abbrev Fs := List (Int × Fr)

/-! ### tables -/
section
variable {α : Type}
def lk : List (Int × α) → Int → Option α
  | [], _ => none
  | (j, a) :: r, k => if j = k then some a else lk r k
def has (l : List (Int × α)) (k : Int) : Bool := (lk l k).isSome
def pt : List (Int × α) → Int → α → List (Int × α)
  | [], k, v => [(k, v)]
  | (j, a) :: r, k, v => if j = k then (j, v) :: r else (j, a) :: pt r k v
def dr (l : List (Int × α)) (k : Int) : List (Int × α) := l.filter fun q => decide (q.1 ≠ k)
def ks (l : List (Int × α)) : List Int := l.map (·.1)
theorem lk_pt (l : List (Int × α)) (k : Int) (v : α) (j : Int) : lk (pt l k v) j = if j = k then some v else lk l j := by
  induction l with
  | nil =>
    by_cases h : j = k
    · subst h; simp [pt, lk]
    · have h' : ¬ k = j := fun e => h e.symm
      simp [pt, lk, h, h']
  | cons p r ih =>
    obtain ⟨i, a⟩ := p
    by_cases h : i = k
    · subst h
      by_cases h2 : j = i
      · subst h2; simp [pt, lk]
      · have h' : ¬ i = j := fun e => h2 e.symm
        simp [pt, lk, h2, h']
    · by_cases h2 : i = j
      · subst h2; simp [pt, lk, h]
      · simp [pt, lk, h, h2, ih]
theorem lk_pt_same (l : List (Int × α)) (k : Int) (v : α) : lk (pt l k v) k = some v := by rw [lk_pt, if_pos rfl]
theorem lk_pt_ne {l : List (Int × α)} {k j : Int} {v : α} (h : j ≠ k) : lk (pt l k v) j = lk l j := by rw [lk_pt, if_neg h]
theorem lk_dr (l : List (Int × α)) (k j : Int) : lk (dr l k) j = if j = k then none else lk l j := by
  induction l with
  | nil => simp [dr, lk]
  | cons p r ih =>
    obtain ⟨i, a⟩ := p
    have e : dr ((i, a) :: r) k = if i = k then dr r k else (i, a) :: dr r k := by
      by_cases h : i = k <;> simp [dr, h]
    rw [e]
    by_cases h : i = k
    · rw [if_pos h, ih]
      by_cases h2 : j = k
      · simp [h2]
      · have h' : ¬ i = j := fun e => h2 (e.symm.trans h)
        simp [lk, h2, h']
    · rw [if_neg h]
      by_cases h2 : i = j
      · subst h2; simp [lk, h]
      · simp [lk, h2, ih]
theorem lk_dr_ne {l : List (Int × α)} {k j : Int} (h : j ≠ k) : lk (dr l k) j = lk l j := by rw [lk_dr, if_neg h]
theorem lk_mem : ∀ {l : List (Int × α)} {k : Int} {v : α}, lk l k = some v → (k, v) ∈ l
  | [], _, _, h => by simp [lk] at h
  | (j, a) :: r, k, v, h => by
    by_cases e : j = k
    · simp [lk, e] at h; simp [e, h]
    · simp [lk, e] at h; exact List.mem_cons_of_mem _ (lk_mem h)
theorem mem_ks {l : List (Int × α)} {k : Int} : k ∈ ks l ↔ ∃ v, lk l k = some v := by
  induction l with
  | nil => simp [ks, lk]
  | cons p r ih =>
    obtain ⟨j, a⟩ := p
    have ih' : k ∈ List.map (·.1) r ↔ ∃ v, lk r k = some v := ih
    by_cases e : j = k
    · simp [ks, lk, e]
    · have e' : ¬ k = j := fun z => e z.symm
      simp only [ks, List.map_cons, List.mem_cons, e', false_or, lk, e, if_false]
      exact ih'
theorem not_mem_ks {l : List (Int × α)} {k : Int} : k ∉ ks l ↔ lk l k = none := by
  rw [mem_ks]
  cases lk l k <;> simp
theorem mem_lk : ∀ {l : List (Int × α)} {k : Int} {v : α}, (ks l).Nodup → (k, v) ∈ l → lk l k = some v
  | [], _, _, _, h => by simp at h
  | (j, a) :: r, k, v, nd, h => by
    have nd' : j ∉ ks r ∧ (ks r).Nodup := List.nodup_cons.mp nd
    rcases List.mem_cons.mp h with e | e
    · cases e; simp [lk]
    · have hk : k ∈ ks r := List.mem_map.mpr ⟨_, e, rfl⟩
      have ne : ¬ j = k := fun z => nd'.1 (z ▸ hk)
      simp [lk, ne]; exact mem_lk nd'.2 e
theorem ks_pt_old : ∀ {l : List (Int × α)} {k : Int} {v : α}, k ∈ ks l → ks (pt l k v) = ks l
  | [], _, _, h => by simp [ks] at h
  | (j, a) :: r, k, v, h => by
    by_cases e : j = k
    · simp [pt, ks, e]
    · have h' : k ∈ ks r := by
        rcases List.mem_cons.mp (show k ∈ j :: ks r from h) with z | z
        · exact absurd z.symm e
        · exact z
      have ih := ks_pt_old (v := v) h'
      simp only [pt, e, if_false]
      show j :: ks (pt r k v) = j :: ks r
      rw [ih]
theorem pt_new : ∀ {l : List (Int × α)} {k : Int} {v : α}, lk l k = none → pt l k v = l ++ [(k, v)]
  | [], _, _, _ => rfl
  | (j, a) :: r, k, v, h => by
    by_cases e : j = k
    · simp [lk, e] at h
    · simp [lk, e] at h
      simp [pt, e, pt_new h]
theorem ks_pt_new {l : List (Int × α)} {k : Int} {v : α} (h : lk l k = none) : ks (pt l k v) = ks l ++ [k] := by
  rw [pt_new h]; simp [ks]
theorem nd_pt {l : List (Int × α)} {k : Int} {v : α} (nd : (ks l).Nodup) : (ks (pt l k v)).Nodup := by
  by_cases h : k ∈ ks l
  · rw [ks_pt_old h]; exact nd
  · rw [ks_pt_new (not_mem_ks.mp h)]
    rw [List.nodup_append]
    refine ⟨nd, by simp, fun a ha b hb e => ?_⟩
    simp at hb; subst hb; subst e; exact h ha
theorem ks_dr (l : List (Int × α)) (k : Int) : ks (dr l k) = (ks l).filter fun j => decide (j ≠ k) := by
  induction l with
  | nil => rfl
  | cons p r ih =>
    obtain ⟨j, a⟩ := p
    have ih' : List.map (·.1) (dr r k) = List.filter (fun j => decide (j ≠ k)) (List.map (·.1) r) := ih
    by_cases e : j = k
    · simp [dr, ks, e] at ih' ⊢; exact ih'
    · simp [dr, ks, e] at ih' ⊢; exact ih'
theorem nd_dr {l : List (Int × α)} {k : Int} (nd : (ks l).Nodup) : (ks (dr l k)).Nodup := by
  rw [ks_dr]; exact nd.filter _
theorem len_pt_old {l : List (Int × α)} {k : Int} {v : α} (h : k ∈ ks l) : (pt l k v).length = l.length := by
  have := congrArg List.length (ks_pt_old (v := v) h)
  simpa [ks] using this
theorem len_pt_new {l : List (Int × α)} {k : Int} {v : α} (h : lk l k = none) : (pt l k v).length = l.length + 1 := by
  rw [pt_new h]; simp
theorem dr_no : ∀ {l : List (Int × α)} {k : Int}, lk l k = none → dr l k = l
  | [], _, _ => rfl
  | (j, a) :: r, k, h => by
    by_cases e : j = k
    · simp [lk, e] at h
    · simp [lk, e] at h
      have := dr_no h
      simp [dr, e] at this ⊢; exact this
theorem len_dr : ∀ {l : List (Int × α)} {k : Int} {v : α}, (ks l).Nodup → lk l k = some v → (dr l k).length + 1 = l.length
  | [], _, _, _, h => by simp [lk] at h
  | (j, a) :: r, k, v, nd, h => by
    have nd' : j ∉ ks r ∧ (ks r).Nodup := List.nodup_cons.mp nd
    by_cases e : j = k
    · subst e
      have := dr_no (not_mem_ks.mp nd'.1)
      have e2 : dr ((j, a) :: r) j = dr r j := by simp [dr]
      rw [e2, this]; rfl
    · simp [lk, e] at h
      have := len_dr nd'.2 h
      simp [dr, e] at this ⊢; exact this
end

/-! ### who needs whom -/
/-- 1 if b is r -/
def one (b : Option Int) (r : Int) : Nat := if b = some r then 1 else 0
theorem one_same (r : Int) : one (some r) r = 1 := by simp [one]
theorem one_none (r : Int) : one none r = 0 := by simp [one]
theorem one_ne {b : Option Int} {r : Int} (h : b ≠ some r) : one b r = 0 := by simp [one, h]
/-- how many frames stand on r -/
def cb (fs : Fs) (r : Int) : Nat := match fs with
  | [] => 0
  | q :: l => one q.2.below r + cb l r
theorem cb_app (fs gs : Fs) (r : Int) : cb (fs ++ gs) r = cb fs r + cb gs r := by
  induction fs with
  | nil => simp [cb]
  | cons q l ih => simp [cb, ih]; omega
theorem cb_pt_new {fs : Fs} {k : Int} {v : Fr} (h : lk fs k = none) (r : Int) : cb (pt fs k v) r = cb fs r + one v.below r := by
  rw [pt_new h, cb_app]; simp [cb]
theorem cb_pt : ∀ {fs : Fs} {k : Int} {f v : Fr}, lk fs k = some f → ∀ r : Int, cb (pt fs k v) r + one f.below r = cb fs r + one v.below r
  | [], _, _, _, h, _ => by simp [lk] at h
  | (j, a) :: l, k, f, v, h, r => by
    by_cases e : j = k
    · simp [lk, e] at h; subst h; simp [pt, e, cb]; omega
    · simp [lk, e] at h
      have := cb_pt (v := v) h r
      simp [pt, e, cb]; omega
theorem cb_pt_same {fs : Fs} {k : Int} {f v : Fr} (h : lk fs k = some f) (e : v.below = f.below) (r : Int) : cb (pt fs k v) r = cb fs r := by
  have := cb_pt (v := v) h r
  rw [e] at this; omega
theorem cb_dr : ∀ {fs : Fs} {k : Int} {f : Fr}, (ks fs).Nodup → lk fs k = some f → ∀ r : Int, cb (dr fs k) r + one f.below r = cb fs r
  | [], _, _, _, h, _ => by simp [lk] at h
  | (j, a) :: l, k, f, nd, h, r => by
    have nd' : j ∉ ks l ∧ (ks l).Nodup := List.nodup_cons.mp nd
    by_cases e : j = k
    · subst e
      simp [lk] at h; subst h
      have z : dr ((j, a) :: l) j = l := by
        have := dr_no (not_mem_ks.mp nd'.1)
        have e2 : dr ((j, a) :: l) j = dr l j := by simp [dr]
        rw [e2, this]
      rw [z]; simp [cb]; omega
    · simp [lk, e] at h
      have := cb_dr nd'.2 h r
      have e2 : dr ((j, a) :: l) k = (j, a) :: dr l k := by simp [dr, e]
      rw [e2]; simp [cb]; omega
theorem cb_ge : ∀ {fs : Fs} {k : Int} {f : Fr} {r : Int}, lk fs k = some f → f.below = some r → 1 ≤ cb fs r
  | [], _, _, _, h, _ => by simp [lk] at h
  | (j, a) :: l, k, f, r, h, hb => by
    by_cases e : j = k
    · simp [lk, e] at h; subst h; simp [cb, hb, one_same]
    · simp [lk, e] at h
      have := cb_ge h hb
      simp [cb]; omega
theorem cb_pos : ∀ {fs : Fs} {r : Int}, (ks fs).Nodup → 1 ≤ cb fs r → ∃ k f, lk fs k = some f ∧ f.below = some r
  | [], _, _, h => by simp [cb] at h
  | (j, a) :: l, r, nd, h => by
    have nd' : j ∉ ks l ∧ (ks l).Nodup := List.nodup_cons.mp nd
    by_cases e : a.below = some r
    · exact ⟨j, a, by simp [lk], e⟩
    · simp [cb, one_ne e] at h
      obtain ⟨k, f, h1, h2⟩ := cb_pos nd'.2 h
      have ne : ¬ j = k := fun z => nd'.1 (mem_ks.mpr ⟨f, z ▸ h1⟩)
      exact ⟨k, f, by simp [lk, ne, h1], h2⟩
theorem cb_two {fs : Fs} {j k : Int} {f g : Fr} {r : Int} (nd : (ks fs).Nodup) (h1 : lk fs j = some f) (h2 : lk fs k = some g) (ne : j ≠ k) (b1 : f.below = some r) (b2 : g.below = some r) : 2 ≤ cb fs r := by
  have a := cb_dr nd h1 r
  have b : lk (dr fs j) k = some g := by rw [lk_dr_ne ne.symm]; exact h2
  have c := cb_ge b b2
  rw [b1, one_same] at a
  omega

/-! ### piles -/
inductive Path (fs : Fs) : Option Int → List Int → Prop
  | nil : Path fs none []
  | cons {r : Int} {f : Fr} {l : List Int} : lk fs r = some f → Path fs f.below l → Path fs (some r) (r :: l)
theorem Path.det {fs : Fs} {x : Option Int} {l m : List Int} (h : Path fs x l) : Path fs x m → l = m := by
  induction h generalizing m with
  | nil => intro h; cases h; rfl
  | cons e _ ih =>
    intro h
    cases h with
    | cons e' h' =>
      rw [e] at e'; cases e'
      rw [ih h']
theorem Path.in {fs : Fs} {x : Option Int} {l : List Int} (h : Path fs x l) : ∀ r ∈ l, ∃ f, lk fs r = some f := by
  induction h with
  | nil => intro r hr; simp at hr
  | cons e _ ih =>
    intro r hr
    rcases List.mem_cons.mp hr with z | z
    · exact ⟨_, z ▸ e⟩
    · exact ih r z
theorem Path.sub {fs : Fs} {x : Option Int} {l : List Int} (h : Path fs x l) : ∀ r ∈ l, ∃ m, Path fs (some r) m ∧ m.length ≤ l.length := by
  induction h with
  | nil => intro r hr; simp at hr
  | cons e p ih =>
    intro r hr
    rcases List.mem_cons.mp hr with z | z
    · subst z; exact ⟨_, .cons e p, Nat.le_refl _⟩
    · obtain ⟨m, h1, h2⟩ := ih r z
      exact ⟨m, h1, by simp; omega⟩
theorem Path.nodup {fs : Fs} {x : Option Int} {l : List Int} (h : Path fs x l) : l.Nodup := by
  induction h with
  | nil => simp
  | cons e p ih =>
    refine List.nodup_cons.mpr ⟨fun hr => ?_, ih⟩
    obtain ⟨m, h1, h2⟩ := p.sub _ hr
    have := (Path.cons e p).det h1
    subst this
    simp at h2
    omega
/-- the pile goes the same way where the rooms on it stand on the same -/
theorem Path.congr {fs gs : Fs} {x : Option Int} {l : List Int} (h : Path fs x l) : (∀ r ∈ l, ∀ f, lk fs r = some f → ∃ g, lk gs r = some g ∧ g.below = f.below) → Path gs x l := by
  induction h with
  | nil => intro _; exact .nil
  | cons e _ ih =>
    intro k
    obtain ⟨g, h1, h2⟩ := k _ List.mem_cons_self _ e
    exact .cons h1 (h2 ▸ ih fun r hr => k r (List.mem_cons_of_mem _ hr))
theorem Path.none_nil {fs : Fs} {l : List Int} (h : Path fs none l) : l = [] := by cases h; rfl
theorem Path.of_some {fs : Fs} {r : Int} {l : List Int} (h : Path fs (some r) l) : ∃ f m, lk fs r = some f ∧ Path fs f.below m ∧ l = r :: m := by
  cases h with
  | cons e p => exact ⟨_, _, e, p, rfl⟩
/-- the path function, by fuel -/
def pathF : Nat → Fs → Option Int → List Int
  | 0, _, _ => []
  | _ + 1, _, none => []
  | n + 1, fs, some r => match lk fs r with
    | none => []
    | some f => r :: pathF n fs f.below
theorem Path.fuel {fs : Fs} {x : Option Int} {l : List Int} (h : Path fs x l) : ∀ {n : Nat}, l.length < n → pathF n fs x = l := by
  induction h with
  | nil => intro n hn; cases n with
    | zero => rfl
    | succ n => rfl
  | cons e _ ih =>
    intro n hn
    cases n with
    | zero => omega
    | succ n =>
      simp only [pathF, e]
      rw [ih (by simp at hn; omega)]
theorem sub_len {l m : List Int} (nd : l.Nodup) (h : ∀ r ∈ l, r ∈ m) : l.length ≤ m.length := by
  induction l generalizing m with
  | nil => simp
  | cons a t ih =>
    have nd' := List.nodup_cons.mp nd
    have ha : a ∈ m := h a List.mem_cons_self
    have h2 : ∀ r ∈ t, r ∈ m.erase a := fun r hr => by
      have ne : r ≠ a := fun z => nd'.1 (z ▸ hr)
      exact (List.mem_erase_of_ne ne).mpr (h r (List.mem_cons_of_mem _ hr))
    have := ih nd'.2 h2
    rw [List.length_erase_of_mem ha] at this
    have : 0 < m.length := List.length_pos_of_mem ha
    simp; omega
theorem Path.len {fs : Fs} {x : Option Int} {l : List Int} (h : Path fs x l) : l.length ≤ fs.length := by
  have := sub_len (m := ks fs) h.nodup fun r hr => mem_ks.mpr (h.in r hr)
  simpa [ks] using this
def path (fs : Fs) (x : Option Int) : List Int := pathF (fs.length + 1) fs x
theorem Path.eq {fs : Fs} {x : Option Int} {l : List Int} (h : Path fs x l) : path fs x = l := h.fuel (Nat.lt_succ_of_le h.len)

/-! ### the counts are right -/
structure WF (fs : Fs) (c : Int → Nat) : Prop where
  nd : (ks fs).Nodup
  nb : ∀ r f, lk fs r = some f → f.needs = ((c r + cb fs r : Nat) : Int)
  pos : ∀ r f, lk fs r = some f → 1 ≤ f.needs
  cin : ∀ r, 1 ≤ c r → ∃ f, lk fs r = some f
  bin : ∀ k f r, lk fs k = some f → f.below = some r → ∃ g, lk fs r = some g
  fin : ∀ r f, lk fs r = some f → ∃ l, Path fs (some r) l
theorem WF.ext {fs : Fs} {c c' : Int → Nat} (h : WF fs c) (e : ∀ r, c r = c' r) : WF fs c' := by
  have : c = c' := funext e
  rw [← this]; exact h
theorem WF.path {fs : Fs} {c : Int → Nat} (h : WF fs c) (x : Option Int) (hx : ∀ r, x = some r → ∃ f, lk fs r = some f) : Path fs x (path fs x) := by
  cases x with
  | none => rw [Path.eq .nil]; exact .nil
  | some r =>
    obtain ⟨f, hf⟩ := hx r rfl
    obtain ⟨l, hl⟩ := h.fin r f hf
    rw [hl.eq]; exact hl
def wantF (fs : Fs) (x : Option Int) : Fs := match x with
  | none => fs
  | some r => match lk fs r with
    | none => fs
    | some f => pt fs r { f with needs := f.needs + 1 }
/-- the leaving loop -/
def leaveF : Nat → Fs → Option Int → Fs
  | 0, fs, _ => fs
  | _ + 1, fs, none => fs
  | n + 1, fs, some r => match lk fs r with
    | none => fs
    | some f => if f.needs - 1 > 0 then pt fs r { f with needs := f.needs - 1 } else leaveF n (dr fs r) f.below
inductive Leave : Fs → Option Int → Fs → Prop
  | nil {fs : Fs} : Leave fs none fs
  | stop {fs : Fs} {r : Int} {f : Fr} : lk fs r = some f → f.needs - 1 > 0 → Leave fs (some r) (pt fs r { f with needs := f.needs - 1 })
  | go {fs gs : Fs} {r : Int} {f : Fr} : lk fs r = some f → ¬ f.needs - 1 > 0 → Leave (dr fs r) f.below gs → Leave fs (some r) gs
theorem Leave.fuel {fs gs : Fs} {x : Option Int} (h : Leave fs x gs) : (ks fs).Nodup → ∀ {n : Nat}, fs.length < n → leaveF n fs x = gs := by
  induction h with
  | nil => intro nd n hn; cases n <;> rfl
  | stop e g =>
    intro nd n hn
    cases n with
    | zero => omega
    | succ n => simp only [leaveF, e]; rw [if_pos g]
  | go e g _ ih =>
    intro nd n hn
    cases n with
    | zero => omega
    | succ n =>
      simp only [leaveF, e]
      rw [if_neg g]
      have := len_dr nd e
      exact ih (nd_dr nd) (by omega)
def leave (fs : Fs) (x : Option Int) : Fs := leaveF (fs.length + 1) fs x
theorem Leave.eq {fs gs : Fs} {x : Option Int} (h : Leave fs x gs) (nd : (ks fs).Nodup) : leave fs x = gs := h.fuel nd (Nat.lt_succ_self _)

/-- what stands in gs stands in fs alike but for the needs -/
def Sub (gs fs : Fs) : Prop := ∀ r g, lk gs r = some g → ∃ f, lk fs r = some f ∧ f.below = g.below ∧ f.slots = g.slots
theorem Sub.refl (fs : Fs) : Sub fs fs := fun _ g h => ⟨g, h, rfl, rfl⟩
theorem Sub.trans {a b c : Fs} (h : Sub a b) (k : Sub b c) : Sub a c := fun r g e => by
  obtain ⟨f, h1, h2, h3⟩ := h r g e
  obtain ⟨f', k1, k2, k3⟩ := k r f h1
  exact ⟨f', k1, k2.trans h2, k3.trans h3⟩
theorem Sub.needs {fs : Fs} {r : Int} {f : Fr} (h : lk fs r = some f) (n : Int) : Sub (pt fs r { f with needs := n }) fs := fun k g e => by
  by_cases z : k = r
  · subst z; rw [lk_pt_same] at e; cases e; exact ⟨f, h, rfl, rfl⟩
  · rw [lk_pt_ne z] at e; exact ⟨g, e, rfl, rfl⟩
theorem Sub.dr (fs : Fs) (r : Int) : Sub (dr fs r) fs := fun k g e => by
  rw [lk_dr] at e
  split at e
  · cases e
  · exact ⟨g, e, rfl, rfl⟩
theorem Path.up {fs gs : Fs} {x : Option Int} {l : List Int} (h : Path gs x l) (s : Sub gs fs) : Path fs x l :=
  h.congr fun r _ f e => by
    obtain ⟨g, h1, h2, _⟩ := s r f e
    exact ⟨g, h1, h2⟩
theorem WF.path_sub {fs gs : Fs} {c : Int → Nat} (h : WF gs c) (s : Sub gs fs) {x : Option Int} (hx : ∀ r, x = some r → ∃ f, lk gs r = some f) {l : List Int} (p : Path fs x l) : Path gs x l := by
  have q := h.path x hx
  have := p.det (q.up s)
  rw [this]; exact q
theorem WF.needs_pt {fs : Fs} {c : Int → Nat} {r : Int} {f : Fr} {n : Int} {c' : Int → Nat} (h : WF fs c) (e : lk fs r = some f) (hn : 1 ≤ n) (hc : n = ((c' r + cb fs r : Nat) : Int)) (ho : ∀ k, k ≠ r → c' k = c k) :
    WF (pt fs r { f with needs := n }) c' := by
  have cbe : ∀ k, cb (pt fs r { f with needs := n }) k = cb fs k := fun k => cb_pt_same (v := { f with needs := n }) e rfl k
  have hin : ∀ k g, lk fs k = some g → ∃ g', lk (pt fs r { f with needs := n }) k = some g' ∧ g'.below = g.below := fun k g hk => by
    by_cases z : k = r
    · subst z; rw [e] at hk; cases hk; exact ⟨_, lk_pt_same _ _ _, rfl⟩
    · exact ⟨g, by rw [lk_pt_ne z]; exact hk, rfl⟩
  refine ⟨nd_pt h.nd, fun k g hk => ?_, fun k g hk => ?_, fun k hk => ?_, fun k g b hk hb => ?_, fun k g hk => ?_⟩
  · rw [cbe]
    by_cases z : k = r
    · subst z; rw [lk_pt_same] at hk; cases hk; exact hc
    · rw [lk_pt_ne z] at hk; rw [ho k z]; exact h.nb k g hk
  · by_cases z : k = r
    · subst z; rw [lk_pt_same] at hk; cases hk; exact hn
    · rw [lk_pt_ne z] at hk; exact h.pos k g hk
  · by_cases z : k = r
    · subst z; exact ⟨_, lk_pt_same _ _ _⟩
    · rw [ho k z] at hk
      obtain ⟨g, hg⟩ := h.cin k hk
      obtain ⟨g', h1, _⟩ := hin k g hg
      exact ⟨g', h1⟩
  · obtain ⟨f0, h1, h2, _⟩ := Sub.needs e n k g hk
    obtain ⟨g0, h3⟩ := h.bin k f0 b h1 (h2.trans hb)
    obtain ⟨g', h4, _⟩ := hin b g0 h3
    exact ⟨g', h4⟩
  · obtain ⟨f0, h1, h2, _⟩ := Sub.needs e n k g hk
    obtain ⟨l, hl⟩ := h.fin k f0 h1
    exact ⟨l, hl.congr fun r' _ g0 e0 => hin r' g0 e0⟩
theorem WF.want {fs : Fs} {c : Int → Nat} (h : WF fs c) (x : Option Int) (hx : ∀ r, x = some r → ∃ f, lk fs r = some f) : WF (wantF fs x) (fun k => c k + one x k) := by
  cases x with
  | none => exact h.ext fun r => by rw [one_none]; rfl
  | some r =>
    obtain ⟨f, e⟩ := hx r rfl
    have p := h.pos r f e
    have q := h.nb r f e
    simp only [wantF, e]
    refine h.needs_pt e (by omega) ?_ fun k z => ?_
    · rw [one_same]; omega
    · rw [one_ne (fun w => z (Option.some.inj w).symm)]; rfl
theorem Sub.want (fs : Fs) (x : Option Int) : Sub (wantF fs x) fs := by
  cases x with
  | none => exact Sub.refl fs
  | some r =>
    simp only [wantF]
    split
    · exact Sub.refl fs
    · exact Sub.needs (by assumption) _
theorem want_in {fs : Fs} {x : Option Int} {k : Int} {f : Fr} (h : lk fs k = some f) : ∃ g, lk (wantF fs x) k = some g ∧ g.below = f.below ∧ g.slots = f.slots := by
  cases x with
  | none => exact ⟨f, h, rfl, rfl⟩
  | some r =>
    simp only [wantF]
    split
    · exact ⟨f, h, rfl, rfl⟩
    · rename_i g e
      by_cases z : k = r
      · subst z; rw [h] at e; cases e; exact ⟨_, lk_pt_same _ _ _, rfl, rfl⟩
      · exact ⟨f, by rw [lk_pt_ne z]; exact h, rfl, rfl⟩
theorem ks_want (fs : Fs) (x : Option Int) : ks (wantF fs x) = ks fs := by
  cases x with
  | none => rfl
  | some r =>
    simp only [wantF]
    split
    · rfl
    · exact ks_pt_old (mem_ks.mpr ⟨_, by assumption⟩)
/-- leaving ends, and the counts are right again -/
theorem WF.leave : ∀ (n : Nat) {fs : Fs} {c : Int → Nat} {x : Option Int}, fs.length = n → WF fs (fun k => c k + one x k) → ∃ gs, Leave fs x gs ∧ WF gs c ∧ Sub gs fs
  | n, fs, c, none, hn, h => ⟨fs, .nil, h.ext fun r => by rw [one_none]; rfl, Sub.refl fs⟩
  | n, fs, c, some r, hn, h => by
    obtain ⟨f, e⟩ := h.cin r (by show 1 ≤ c r + one (some r) r; rw [one_same]; omega)
    have p := h.pos r f e
    have q := h.nb r f e
    have q' : f.needs = ((c r + 1 + cb fs r : Nat) : Int) := by
      have z : f.needs = ((c r + one (some r) r + cb fs r : Nat) : Int) := q
      rw [one_same] at z; exact z
    by_cases g : f.needs - 1 > 0
    · refine ⟨_, .stop e g, h.needs_pt e (by omega) (by omega) fun k z => ?_, Sub.needs e _⟩
      rw [one_ne (fun w => z (Option.some.inj w).symm)]; rfl
    · have c0 : c r = 0 := by omega
      have b0 : cb fs r = 0 := by omega
      have nob : ∀ k g, lk fs k = some g → g.below ≠ some r := fun k g hk hb => by
        have := cb_ge hk hb; omega
      have oc : ∀ k, k ≠ r → c k + one (some r) k = c k := fun k z => by
        rw [one_ne (fun w => z (Option.some.inj w).symm)]; rfl
      have hw : WF (dr fs r) (fun k => c k + one f.below k) := by
        refine ⟨nd_dr h.nd, fun k g hk => ?_, fun k g hk => ?_, fun k hk => ?_, fun k g b hk hb => ?_, fun k g hk => ?_⟩
        · rw [lk_dr] at hk
          split at hk
          · cases hk
          · rename_i z
            have a := h.nb k g hk
            have b := cb_dr h.nd e k
            have a' : g.needs = ((c k + one (some r) k + cb fs k : Nat) : Int) := a
            rw [oc k z] at a'
            show g.needs = ((c k + one f.below k + cb (SW.dr fs r) k : Nat) : Int)
            omega
        · rw [lk_dr] at hk
          split at hk
          · cases hk
          · exact h.pos k g hk
        · have hk' : 1 ≤ c k + one f.below k := hk
          by_cases z : k = r
          · subst z
            have : one f.below k = 0 := one_ne (nob k f e)
            omega
          · rw [lk_dr_ne z]
            by_cases w : f.below = some k
            · exact h.bin r f k e w
            · rw [one_ne w] at hk'
              exact h.cin k (by show 1 ≤ c k + one (some r) k; omega)
        · rw [lk_dr] at hk
          split at hk
          · cases hk
          · have z : b ≠ r := fun z => nob k g hk (z ▸ hb)
            rw [lk_dr_ne z]
            exact h.bin k g b hk hb
        · rw [lk_dr] at hk
          split at hk
          · cases hk
          · rename_i z
            obtain ⟨l, hl⟩ := h.fin k g hk
            have avoid : ∀ {x : Option Int} {l : List Int}, Path fs x l → x ≠ some r → r ∉ l := by
              intro x l hp
              induction hp with
              | nil => intro _ hr; simp at hr
              | cons e' _ ih =>
                intro hx hr
                rcases List.mem_cons.mp hr with w | w
                · exact hx (by rw [w])
                · exact ih (nob _ _ e') w
            have hr : r ∉ l := avoid hl (fun w => z (Option.some.inj w))
            exact ⟨l, hl.congr fun r' hr' g0 e0 => ⟨g0, by rw [lk_dr_ne (fun w : r' = r => hr (by rw [← w]; exact hr'))]; exact e0, rfl⟩⟩
      have hl := len_dr h.nd e
      obtain ⟨gs, h1, h2, h3⟩ := WF.leave (n - 1) (fs := SW.dr fs r) (c := c) (x := f.below) (by omega) hw
      exact ⟨gs, .go e g h1, h2, h3.trans (Sub.dr fs r)⟩
termination_by n _ _ x => n
decreasing_by
  have := len_dr h.nd e
  omega
end SW
end
section
/-! SwOps: what each deed of the wood does, in plain Lean, and that the counts stay right. -/
namespace SW
structure Wd where
  rooms : Int
  frames : Fs
  tops : List (Option Int)
  marks : List (Int × Option Int)
  many : Int
  made : Int
inductive Er | hand | place | call | slot | room
  deriving DecidableEq
/-- how many of these are r -/
def cR : List (Option Int) → Int → Nat
  | [], _ => 0
  | x :: t, r => one x r + cR t r
def mv (m : List (Int × Option Int)) : List (Option Int) := m.map (·.2)
def cW (W : Wd) (r : Int) : Nat := cR W.tops r + cR (mv W.marks) r
structure WFW (W : Wd) : Prop where
  wf : WF W.frames (cW W)
  r1 : 1 ≤ W.rooms
  r40 : W.rooms ≤ 40
  rng : ∀ r ∈ ks W.frames, 1 ≤ r ∧ r ≤ W.rooms
  ms : (ks W.marks).Pairwise (· < ·)
  mr : ∀ k ∈ ks W.marks, 0 ≤ k ∧ k < W.many
  m0 : 0 ≤ W.many
  h1 : 1 ≤ W.tops.length
  h6 : W.tops.length ≤ 6

theorem WFW.ndm {W : Wd} (F : WFW W) : (ks W.marks).Nodup := F.ms.imp fun h => by omega
theorem cR_set : ∀ (l : List (Option Int)) (i : Nat) (x : Option Int) (r : Int), i < l.length → cR (l.set i x) r + one (l.getD i none) r = cR l r + one x r
  | [], i, x, r, h => by simp at h
  | a :: t, 0, x, r, h => by simp [cR]; omega
  | a :: t, i + 1, x, r, h => by
    have := cR_set t i x r (by simpa using h)
    simp [cR] at this ⊢; omega
theorem cR_ge : ∀ {l : List (Option Int)} {r : Int}, some r ∈ l → 1 ≤ cR l r
  | [], _, h => by simp at h
  | a :: t, r, h => by
    rcases List.mem_cons.mp h with e | e
    · subst e; simp [cR, one_same]
    · have := cR_ge e; simp [cR]; omega
theorem cR_mem : ∀ {l : List (Option Int)} {r : Int}, 1 ≤ cR l r → some r ∈ l
  | [], _, h => by simp [cR] at h
  | a :: t, r, h => by
    by_cases e : a = some r
    · subst e; exact List.mem_cons_self
    · simp [cR, one_ne e] at h
      exact List.mem_cons_of_mem _ (cR_mem h)
theorem cR_app (l m : List (Option Int)) (r : Int) : cR (l ++ m) r = cR l r + cR m r := by
  induction l with
  | nil => simp [cR]
  | cons a t ih => simp [cR, ih]; omega
theorem mv_pt_new {m : List (Int × Option Int)} {k : Int} {v : Option Int} (h : lk m k = none) (r : Int) : cR (mv (pt m k v)) r = cR (mv m) r + one v r := by
  rw [pt_new h]; simp [mv, cR_app, cR]
theorem mv_dr : ∀ {m : List (Int × Option Int)} {k : Int} {v : Option Int}, (ks m).Nodup → lk m k = some v → ∀ r, cR (mv (dr m k)) r + one v r = cR (mv m) r
  | [], _, _, _, h, _ => by simp [lk] at h
  | (j, a) :: l, k, v, nd, h, r => by
    have nd' : j ∉ ks l ∧ (ks l).Nodup := List.nodup_cons.mp nd
    by_cases e : j = k
    · subst e
      simp [lk] at h; subst h
      have e2 : dr ((j, a) :: l) j = l := by
        have e3 : dr ((j, a) :: l) j = dr l j := by simp [dr]
        rw [e3, dr_no (not_mem_ks.mp nd'.1)]
      rw [e2]; simp [mv, cR]; omega
    · simp [lk, e] at h
      have := mv_dr nd'.2 h r
      have e2 : dr ((j, a) :: l) k = (j, a) :: dr l k := by simp [dr, e]
      rw [e2]; simp [mv, cR] at this ⊢; omega
theorem lk_mv {m : List (Int × Option Int)} {k : Int} {v : Option Int} (h : lk m k = some v) : v ∈ mv m := List.mem_map.mpr ⟨_, lk_mem h, rfl⟩

theorem dr_pt {α : Type} : ∀ (l : List (Int × α)) (k : Int) (v : α), dr (pt l k v) k = dr l k
  | [], k, v => by simp [pt, dr]
  | (j, a) :: r, k, v => by
    by_cases e : j = k
    · subst e; simp [pt, dr]
    · have := dr_pt r k v
      simp [pt, e, dr] at this ⊢; exact this
/-! ### the free rooms -/
def allR (rooms : Int) : List Int := (List.range rooms.toNat).map fun (i : Nat) => (1 : Int) + (i : Int)
def freeR (rooms : Int) (fs : Fs) : List Int := (allR rooms).filter fun r => !has fs r
def newRoom (rooms : Int) (fs : Fs) : Int := (freeR rooms fs).headD 0
theorem mem_allR {rooms r : Int} : r ∈ allR rooms ↔ 1 ≤ r ∧ r ≤ rooms := by
  simp only [allR, List.mem_map, List.mem_range]
  constructor
  · rintro ⟨i, h, e⟩; omega
  · intro h; exact ⟨(r - 1).toNat, by omega, by omega⟩
theorem has_false {α : Type} {l : List (Int × α)} {k : Int} : has l k = false ↔ lk l k = none := by
  unfold has; cases lk l k <;> simp
theorem has_true {α : Type} {l : List (Int × α)} {k : Int} : has l k = true ↔ ∃ v, lk l k = some v := by
  unfold has; cases lk l k <;> simp
theorem mem_freeR {rooms r : Int} {fs : Fs} : r ∈ freeR rooms fs ↔ (1 ≤ r ∧ r ≤ rooms) ∧ lk fs r = none := by
  simp only [freeR, List.mem_filter, mem_allR, Bool.not_eq_true', has_false]
theorem allR_sorted (rooms : Int) : (allR rooms).Pairwise (· < ·) := by
  unfold allR
  rw [List.pairwise_map]
  exact List.pairwise_lt_range.imp fun h => by omega
theorem freeR_sorted (rooms : Int) (fs : Fs) : (freeR rooms fs).Pairwise (· < ·) := (allR_sorted rooms).filter _
theorem freeR_len {rooms : Int} {fs : Fs} (h0 : 0 ≤ rooms) (nd : (ks fs).Nodup) (rng : ∀ r ∈ ks fs, 1 ≤ r ∧ r ≤ rooms) : ((freeR rooms fs).length : Int) = rooms - fs.length := by
  have nda : (allR rooms).Nodup := (allR_sorted rooms).imp fun h => by omega
  have la : (allR rooms).length = rooms.toNat := by simp [allR]
  have ndf : (freeR rooms fs).Nodup := nda.filter _
  have a := sub_len (l := allR rooms) (m := freeR rooms fs ++ ks fs) nda fun r hr => by
    rw [List.mem_append]
    cases e : lk fs r with
    | none => exact .inl (mem_freeR.mpr ⟨mem_allR.mp hr, e⟩)
    | some f => exact .inr (mem_ks.mpr ⟨f, e⟩)
  have b := sub_len (l := freeR rooms fs ++ ks fs) (m := allR rooms) (List.nodup_append.mpr ⟨ndf, nd, fun a ha b hb e => by
    subst e
    have := (mem_freeR.mp ha).2
    exact not_mem_ks.mpr this hb⟩) fun r hr => by
    rcases List.mem_append.mp hr with e | e
    · exact mem_allR.mpr (mem_freeR.mp e).1
    · exact mem_allR.mpr (rng r e)
  rw [la, List.length_append] at a
  rw [la, List.length_append] at b
  have k : (ks fs).length = fs.length := by simp [ks]
  omega
theorem min_head {l : List Int} (s : l.Pairwise (· < ·)) {m : Int} (h : m ∈ l) (hm : ∀ x ∈ l, m ≤ x) : m = l.headD 0 := by
  cases l with
  | nil => simp at h
  | cons a t =>
    have s' := List.pairwise_cons.mp s
    rcases List.mem_cons.mp h with e | e
    · simpa using e
    · have := s'.1 m e
      have := hm a List.mem_cons_self
      omega
theorem newRoom_in {rooms : Int} {fs : Fs} (nd : (ks fs).Nodup) (rng : ∀ r ∈ ks fs, 1 ≤ r ∧ r ≤ rooms) (h : (fs.length : Int) + 1 ≤ rooms) : newRoom rooms fs ∈ freeR rooms fs := by
  have := freeR_len (by omega) nd rng
  unfold newRoom
  cases e : freeR rooms fs with
  | nil => rw [e] at this; simp at this; omega
  | cons a t => simp

/-! ### a new frame -/
theorem path_pt_new {fs : Fs} {r : Int} {v : Fr} (n : lk fs r = none) {x : Option Int} {l : List Int} (p : Path fs x l) : Path (pt fs r v) x l :=
  p.congr fun k _ f e => ⟨f, by rw [lk_pt_ne (fun z => by rw [z, n] at e; cases e)]; exact e, rfl⟩
theorem WF.new {fs : Fs} {c : Int → Nat} {b : Option Int} {r : Int} (sl : List Int) (h : WF fs (fun k => c k + one b k)) (n : lk fs r = none) : WF (pt fs r ⟨b, sl, 1⟩) (fun k => c k + one (some r) k) := by
  have c0 : c r = 0 := by
    cases e : c r with
    | zero => rfl
    | succ m =>
      obtain ⟨f, hf⟩ := h.cin r (by show 1 ≤ c r + one b r; omega)
      rw [n] at hf; cases hf
  have bn : b ≠ some r := fun z => by
    obtain ⟨f, hf⟩ := h.cin r (by show 1 ≤ c r + one b r; rw [z, one_same]; omega)
    rw [n] at hf; cases hf
  have b0 : cb fs r = 0 := by
    cases e : cb fs r with
    | zero => rfl
    | succ m =>
      obtain ⟨k, f, h1, h2⟩ := cb_pos h.nd (show 1 ≤ cb fs r by omega)
      obtain ⟨g, hg⟩ := h.bin k f r h1 h2
      rw [n] at hg; cases hg
  refine ⟨nd_pt h.nd, fun k g hk => ?_, fun k g hk => ?_, fun k hk => ?_, fun k g y hk hb => ?_, fun k g hk => ?_⟩
  · rw [cb_pt_new n]
    by_cases z : k = r
    · subst z; rw [lk_pt_same] at hk; cases hk
      show (1 : Int) = ((c k + one (some k) k + (cb fs k + one b k) : Nat) : Int)
      rw [one_same, one_ne bn, c0, b0]; rfl
    · rw [lk_pt_ne z] at hk
      have := h.nb k g hk
      have this : g.needs = ((c k + one b k + cb fs k : Nat) : Int) := this
      show g.needs = ((c k + one (some r) k + (cb fs k + one b k) : Nat) : Int)
      rw [one_ne (fun w => z (Option.some.inj w).symm)]
      omega
  · by_cases z : k = r
    · subst z; rw [lk_pt_same] at hk; cases hk; exact Int.le_refl _
    · rw [lk_pt_ne z] at hk; exact h.pos k g hk
  · by_cases z : k = r
    · subst z; exact ⟨_, lk_pt_same _ _ _⟩
    · have hk' : 1 ≤ c k + one (some r) k := hk
      rw [one_ne (fun w => z (Option.some.inj w).symm)] at hk'
      rw [lk_pt_ne z]
      exact h.cin k (by show 1 ≤ c k + one b k; omega)
  · by_cases z : k = r
    · subst z; rw [lk_pt_same] at hk; cases hk
      have hb' : b = some y := hb
      obtain ⟨g, hg⟩ := h.cin y (by show 1 ≤ c y + one b y; rw [hb', one_same]; omega)
      exact ⟨g, by rw [lk_pt_ne (fun w => by rw [w, n] at hg; cases hg)]; exact hg⟩
    · rw [lk_pt_ne z] at hk
      obtain ⟨g', hg⟩ := h.bin k g y hk hb
      exact ⟨g', by rw [lk_pt_ne (fun w => by rw [w, n] at hg; cases hg)]; exact hg⟩
  · by_cases z : k = r
    · subst z; rw [lk_pt_same] at hk; cases hk
      have pb := h.path b fun y hy => h.cin y (by show 1 ≤ c y + one b y; rw [hy, one_same]; omega)
      exact ⟨_, .cons (lk_pt_same _ _ _) (path_pt_new n pb)⟩
    · rw [lk_pt_ne z] at hk
      obtain ⟨l, hl⟩ := h.fin k g hk
      exact ⟨l, path_pt_new n hl⟩

/-! ### the values of a pile -/
def sl (fs : Fs) (r : Int) : List Int := match lk fs r with
  | some f => f.slots
  | none => []
def vl (fs : Fs) (x : Option Int) : List (List Int) := (path fs x).map (sl fs)
theorem sl_of {fs : Fs} {r : Int} {f : Fr} (h : lk fs r = some f) : sl fs r = f.slots := by simp [sl, h]
theorem vl_congr {fs gs : Fs} {x : Option Int} {l : List Int} (p : Path fs x l) (h : ∀ r ∈ l, ∀ f, lk fs r = some f → ∃ g, lk gs r = some g ∧ g.below = f.below ∧ g.slots = f.slots) : path gs x = l ∧ vl gs x = vl fs x := by
  have q : Path gs x l := p.congr fun r hr f e => by
    obtain ⟨g, h1, h2, _⟩ := h r hr f e
    exact ⟨g, h1, h2⟩
  refine ⟨q.eq, ?_⟩
  unfold vl
  rw [q.eq, p.eq]
  refine List.map_congr_left fun r hr => ?_
  obtain ⟨f, hf⟩ := p.in r hr
  obtain ⟨g, h1, _, h3⟩ := h r hr f hf
  rw [sl_of hf, sl_of h1, h3]
theorem vl_sub {fs gs : Fs} {c : Int → Nat} (h : WF gs c) (s : Sub gs fs) (x : Option Int) (hx : ∀ r, x = some r → ∃ f, lk gs r = some f) : path gs x = path fs x ∧ vl gs x = vl fs x := by
  have p := h.path x hx
  have e := (p.up s).eq
  refine ⟨e.symm, ?_⟩
  unfold vl
  rw [e]
  refine List.map_congr_left fun r hr => ?_
  obtain ⟨g, hg⟩ := p.in r hr
  obtain ⟨f, h1, _, h3⟩ := s r g hg
  rw [sl_of hg, sl_of h1, h3]
theorem vl_nil (fs : Fs) : vl fs none = [] := by
  unfold vl; rw [Path.eq .nil]; rfl
theorem vl_cons {fs : Fs} {c : Int → Nat} (h : WF fs c) {r : Int} {f : Fr} (e : lk fs r = some f) : path fs (some r) = r :: path fs f.below ∧ vl fs (some r) = f.slots :: vl fs f.below := by
  have p := h.path f.below fun b hb => h.bin r f b e hb
  have q := (Path.cons e p).eq
  refine ⟨q, ?_⟩
  unfold vl
  rw [q, List.map_cons, sl_of e]

/-! ### deeds -/
def hOk (W : Wd) (h : Int) : Prop := 0 ≤ h ∧ h < (W.tops.length : Int)
instance (W : Wd) (h : Int) : Decidable (hOk W h) := inferInstanceAs (Decidable (_ ∧ _))
def top (W : Wd) (h : Int) : Option Int := W.tops.getD h.toNat none
def turnTo (W : Wd) (h : Int) (x : Option Int) : Wd := { W with frames := leave (wantF W.frames x) (top W h), tops := W.tops.set h.toNat x }
def doCall (W : Wd) (h : Int) (vs : List Int) : Except Er (Int × Wd) :=
  if ¬ hOk W h then .error .hand
  else if 3 < vs.length then .error .slot
  else if W.rooms < (W.frames.length : Int) + 1 then .error .room
  else .ok (newRoom W.rooms W.frames, { W with frames := pt W.frames (newRoom W.rooms W.frames) ⟨top W h, vs, 1⟩, tops := W.tops.set h.toNat (some (newRoom W.rooms W.frames)) })
def doBack (W : Wd) (h : Int) : Except Er (List Int × Wd) :=
  if ¬ hOk W h then .error .hand
  else match top W h with
    | none => .error .call
    | some r => match lk W.frames r with
      | none => .error .call
      | some f => .ok (f.slots, turnTo W h f.below)
def doBranch (W : Wd) (h o : Int) : Except Er Wd :=
  if ¬ hOk W h then .error .hand
  else if ¬ hOk W o then .error .hand
  else .ok (turnTo W o (top W h))
def doKeep (W : Wd) (h : Int) : Except Er (Int × Wd) :=
  if ¬ hOk W h then .error .hand
  else .ok (W.many, { W with frames := wantF W.frames (top W h), marks := pt W.marks W.many (top W h), many := W.many + 1 })
def doLeap (W : Wd) (h p : Int) : Except Er Wd :=
  if ¬ hOk W h then .error .hand
  else match lk W.marks p with
    | none => .error .place
    | some x => .ok (turnTo W h x)
def doForget (W : Wd) (p : Int) : Except Er Wd :=
  match lk W.marks p with
  | none => .error .place
  | some x => .ok { W with frames := leave W.frames x, marks := dr W.marks p }

section
variable {W : Wd}
theorem top_mem {h : Int} (k : hOk W h) : top W h ∈ W.tops := by
  obtain ⟨a, b⟩ := k
  have : h.toNat < W.tops.length := by omega
  unfold top
  rw [List.getD_eq_getElem?_getD, List.getElem?_eq_getElem this]
  exact List.getElem_mem this
theorem WFW.ref (F : WFW W) {x : Option Int} (hx : x ∈ W.tops ∨ x ∈ mv W.marks) : ∀ r, x = some r → ∃ f, lk W.frames r = some f := fun r e => by
  subst e
  refine F.wf.cin r ?_
  unfold cW
  rcases hx with h | h
  · have := cR_ge h; omega
  · have := cR_ge h; omega
theorem WFW.topIn (F : WFW W) (h : Int) : ∀ r, top W h = some r → ∃ f, lk W.frames r = some f := fun r e => by
  unfold top at e
  rw [List.getD_eq_getElem?_getD] at e
  cases q : W.tops[h.toNat]? with
  | none => rw [q] at e; cases e
  | some x =>
    rw [q] at e
    have : x ∈ W.tops := List.mem_of_getElem? q
    exact F.ref (.inl this) r e
theorem WFW.len (F : WFW W) : W.frames.length ≤ 40 := by
  have := freeR_len (by have := F.r1; omega) F.wf.nd F.rng
  have := F.r40
  omega
/-- the other piles, and the kept ones -/
def vals (W : Wd) : List (List (List Int)) := W.tops.map (vl W.frames)
def kept (W : Wd) : List (Int × List (List Int)) := W.marks.map fun q => (q.1, vl W.frames q.2)
theorem set_count {h : Int} (k : hOk W h) (x : Option Int) (r : Int) : cR (W.tops.set h.toNat x) r + one (top W h) r = cR W.tops r + one x r :=
  cR_set W.tops h.toNat x r (by obtain ⟨a, b⟩ := k; omega)
theorem mem_set {α : Type} {l : List α} {i : Nat} {x y : α} (h : y ∈ l.set i x) : y = x ∨ y ∈ l := by
  rcases List.mem_or_eq_of_mem_set h with z | z
  · exact .inr z
  · exact .inl z
/-- what turning to x does -/
structure Turned (W W' : Wd) (h : Int) (x : Option Int) : Prop where
  wfw : WFW W'
  lv : Leave (wantF W.frames x) (top W h) W'.frames
  sub : Sub W'.frames W.frames
  vals : vals W' = (vals W).set h.toNat (vl W.frames x)
  kept : kept W' = kept W
theorem turnTo_ok (F : WFW W) {h : Int} (k : hOk W h) {x : Option Int} (hx : ∀ r, x = some r → ∃ f, lk W.frames r = some f) : Turned W (turnTo W h x) h x := by
  have w1 := F.wf.want x hx
  have e1 : ∀ r, cW W r + one x r = cW (turnTo W h x) r + one (top W h) r := fun r => by
    have := set_count k x r
    show cR W.tops r + cR (mv W.marks) r + one x r = cR (W.tops.set h.toNat x) r + cR (mv W.marks) r + one (top W h) r
    omega
  obtain ⟨gs, l1, w2, s1⟩ := WF.leave _ rfl (w1.ext e1)
  have ndw : (ks (wantF W.frames x)).Nodup := by rw [ks_want]; exact F.wf.nd
  have eg : leave (wantF W.frames x) (top W h) = gs := l1.eq ndw
  have s2 : Sub gs W.frames := s1.trans (Sub.want _ _)
  have ef : (turnTo W h x).frames = gs := eg
  have F' : WFW (turnTo W h x) := by
    refine ⟨by rw [ef]; exact w2, F.r1, F.r40, fun r hr => ?_, F.ms, F.mr, F.m0, ?_, ?_⟩
    · rw [ef] at hr
      obtain ⟨g, hg⟩ := mem_ks.mp hr
      obtain ⟨f, hf, _⟩ := s2 r g hg
      exact F.rng r (mem_ks.mpr ⟨f, hf⟩)
    · show 1 ≤ (W.tops.set h.toNat x).length; rw [List.length_set]; exact F.h1
    · show (W.tops.set h.toNat x).length ≤ 6; rw [List.length_set]; exact F.h6
  have vs : ∀ y, y ∈ (turnTo W h x).tops ∨ y ∈ mv (turnTo W h x).marks → vl (turnTo W h x).frames y = vl W.frames y := fun y hy => by
    rw [ef]
    exact (vl_sub w2 s2 y (by have := F'.ref hy; rw [ef] at this; exact this)).2
  refine ⟨F', by rw [ef]; exact l1, by rw [ef]; exact s2, ?_, ?_⟩
  · show (W.tops.set h.toNat x).map (vl (turnTo W h x).frames) = (W.tops.map (vl W.frames)).set h.toNat (vl W.frames x)
    have z : List.map (vl (turnTo W h x).frames) (W.tops.set h.toNat x) = List.map (vl W.frames) (W.tops.set h.toNat x) := List.map_congr_left fun y hy => vs y (.inl hy)
    rw [z, List.map_set]
  · show W.marks.map _ = W.marks.map _
    refine List.map_congr_left fun q hq => ?_
    rw [vs q.2 (.inr (List.mem_map.mpr ⟨q, hq, rfl⟩))]
theorem doCall_ok (F : WFW W) {h : Int} {vs : List Int} {r : Int} {W' : Wd} (e : doCall W h vs = .ok (r, W')) : hOk W h ∧ WFW W' ∧ vals W' = (vals W).set h.toNat (vs :: vl W.frames (top W h)) ∧ kept W' = kept W ∧ lk W.frames r = none ∧ W'.many = W.many ∧ vs.length ≤ 3 := by
  unfold doCall at e
  split at e
  · cases e
  rename_i k
  have k : hOk W h := Decidable.byContradiction k
  split at e
  · cases e
  rename_i k3
  split at e
  · cases e
  rename_i kr
  have e' := Except.ok.inj e
  have er : newRoom W.rooms W.frames = r := congrArg Prod.fst e'
  have ew := congrArg Prod.snd e'
  have nin := newRoom_in F.wf.nd F.rng (show (W.frames.length : Int) + 1 ≤ W.rooms by omega)
  rw [er] at nin ew
  obtain ⟨nr, nn⟩ := mem_freeR.mp nin
  subst ew
  have hw : WF W.frames (fun q => cR (W.tops.set h.toNat none) q + cR (mv W.marks) q + one (top W h) q) := F.wf.ext fun q => by
    have := set_count k none q
    rw [one_none] at this
    show cR W.tops q + cR (mv W.marks) q = _
    omega
  have hn := hw.new vs nn
  have hset : ∀ q, cR (W.tops.set h.toNat (some r)) q = cR (W.tops.set h.toNat none) q + one (some r) q := fun q => by
    have a := set_count k none q
    have b := set_count k (some r) q
    rw [one_none] at a
    omega
  have F' : WFW { W with frames := pt W.frames r ⟨top W h, vs, 1⟩, tops := W.tops.set h.toNat (some r) } := by
    refine ⟨hn.ext fun q => ?_, F.r1, F.r40, fun q hq => ?_, F.ms, F.mr, F.m0, ?_, ?_⟩
    · show _ = cR (W.tops.set h.toNat (some r)) q + cR (mv W.marks) q
      rw [hset]; omega
    · rw [show ks (pt W.frames r ⟨top W h, vs, 1⟩) = ks W.frames ++ [r] from ks_pt_new nn] at hq
      rcases List.mem_append.mp hq with z | z
      · exact F.rng q z
      · have : q = r := by simpa using z
        rw [this]; exact nr
    · show 1 ≤ (W.tops.set h.toNat (some r)).length; rw [List.length_set]; exact F.h1
    · show (W.tops.set h.toNat (some r)).length ≤ 6; rw [List.length_set]; exact F.h6
  have old : ∀ y, (∀ q, y = some q → ∃ f, lk W.frames q = some f) → vl (pt W.frames r ⟨top W h, vs, 1⟩) y = vl W.frames y := fun y hy =>
    (vl_congr (F.wf.path y hy) fun q _ f e => ⟨f, by rw [lk_pt_ne (fun z => by rw [z, nn] at e; cases e)]; exact e, rfl, rfl⟩).2
  refine ⟨k, F', ?_, ?_, nn, rfl, by omega⟩
  · show (W.tops.set h.toNat (some r)).map (vl (pt W.frames r ⟨top W h, vs, 1⟩)) = (W.tops.map (vl W.frames)).set h.toNat (vs :: vl W.frames (top W h))
    rw [List.map_set, (vl_cons hn (lk_pt_same _ _ _)).2, old _ (F.topIn h)]
    rw [List.map_congr_left (g := vl W.frames) fun y hy => old y (F.ref (.inl hy))]
  · show W.marks.map _ = W.marks.map _
    refine List.map_congr_left fun q hq => ?_
    rw [old q.2 (F.ref (.inr (List.mem_map.mpr ⟨q, hq, rfl⟩)))]
theorem doBack_ok (F : WFW W) {h : Int} {vs : List Int} {W' : Wd} (e : doBack W h = .ok (vs, W')) : hOk W h ∧ WFW W' ∧ (∃ t, vl W.frames (top W h) = vs :: t ∧ vals W' = (vals W).set h.toNat t) ∧ kept W' = kept W ∧ W'.many = W.many ∧ ∃ x, Turned W W' h x := by
  unfold doBack at e
  split at e
  · cases e
  rename_i k
  have k : hOk W h := Decidable.byContradiction k
  split at e
  · cases e
  rename_i r hr
  split at e
  · cases e
  rename_i f hf
  have e' := Except.ok.inj e
  have e1 : f.slots = vs := congrArg Prod.fst e'
  have e2 : turnTo W h f.below = W' := congrArg Prod.snd e'
  subst e1 e2
  have T := turnTo_ok F k (x := f.below) fun b hb => F.wf.bin r f b hf hb
  refine ⟨k, T.wfw, ⟨vl W.frames f.below, ?_, T.vals⟩, T.kept, rfl, _, T⟩
  rw [hr]; exact (vl_cons F.wf hf).2
theorem doBranch_ok (F : WFW W) {h o : Int} {W' : Wd} (e : doBranch W h o = .ok W') : hOk W h ∧ hOk W o ∧ WFW W' ∧ vals W' = (vals W).set o.toNat (vl W.frames (top W h)) ∧ kept W' = kept W ∧ W'.many = W.many := by
  unfold doBranch at e
  split at e
  · cases e
  rename_i k
  split at e
  · cases e
  rename_i k2
  have k : hOk W h := Decidable.byContradiction k
  have k2 : hOk W o := Decidable.byContradiction k2
  have e2 := Except.ok.inj e
  subst e2
  have T := turnTo_ok F k2 (x := top W h) (F.topIn h)
  exact ⟨k, k2, T.wfw, T.vals, T.kept, rfl⟩
theorem doLeap_ok (F : WFW W) {h p : Int} {W' : Wd} (e : doLeap W h p = .ok W') : hOk W h ∧ ∃ x, lk W.marks p = some x ∧ WFW W' ∧ vals W' = (vals W).set h.toNat (vl W.frames x) ∧ kept W' = kept W ∧ W'.many = W.many := by
  unfold doLeap at e
  split at e
  · cases e
  rename_i k
  have k : hOk W h := Decidable.byContradiction k
  split at e
  · cases e
  rename_i x hx
  have e2 := Except.ok.inj e
  subst e2
  have T := turnTo_ok F k (x := x) (F.ref (.inr (lk_mv hx)))
  exact ⟨k, x, hx, T.wfw, T.vals, T.kept, rfl⟩
theorem doKeep_ok (F : WFW W) {h p : Int} {W' : Wd} (e : doKeep W h = .ok (p, W')) : hOk W h ∧ p = W.many ∧ lk W.marks p = none ∧ WFW W' ∧ vals W' = vals W ∧ kept W' = kept W ++ [(p, vl W.frames (top W h))] ∧ W'.many = W.many + 1 := by
  unfold doKeep at e
  split at e
  · cases e
  rename_i k
  have k : hOk W h := Decidable.byContradiction k
  have e' := Except.ok.inj e
  have e1 : W.many = p := congrArg Prod.fst e'
  have e2 := congrArg Prod.snd e'
  subst e1
  simp only at e2
  subst e2
  have nm : lk W.marks W.many = none := by
    rw [← not_mem_ks]; intro h; have := F.mr _ h; omega
  have w1 := F.wf.want (top W h) (F.topIn h)
  have s1 := Sub.want W.frames (top W h)
  have F' : WFW { W with frames := wantF W.frames (top W h), marks := pt W.marks W.many (top W h), many := W.many + 1 } := by
    refine ⟨w1.ext fun r => ?_, F.r1, F.r40, fun r hr => ?_, ?_, fun q hq => ?_, ?_, F.h1, F.h6⟩
    · show cR W.tops r + cR (mv W.marks) r + one (top W h) r = cR W.tops r + cR (mv (pt W.marks W.many (top W h))) r
      rw [mv_pt_new nm]; omega
    · rw [show ks (wantF W.frames (top W h)) = ks W.frames from ks_want _ _] at hr
      exact F.rng r hr
    · show (ks (pt W.marks W.many (top W h))).Pairwise (· < ·)
      rw [ks_pt_new nm, List.pairwise_append]
      refine ⟨F.ms, by simp, fun a ha b hb => ?_⟩
      have : b = W.many := by simpa using hb
      have := F.mr a ha
      omega
    · rw [show ks (pt W.marks W.many (top W h)) = ks W.marks ++ [W.many] from ks_pt_new nm] at hq
      show 0 ≤ q ∧ q < W.many + 1
      have := F.m0
      rcases List.mem_append.mp hq with z | z
      · have := F.mr q z; omega
      · have : q = W.many := by simpa using z
        omega
    · show 0 ≤ W.many + 1
      have := F.m0
      omega
  have same : ∀ y, (∀ q, y = some q → ∃ f, lk W.frames q = some f) → vl (wantF W.frames (top W h)) y = vl W.frames y := fun y hy =>
    (vl_congr (F.wf.path y hy) fun q _ f e => want_in e).2
  refine ⟨k, rfl, nm, F', ?_, ?_, rfl⟩
  · show W.tops.map _ = W.tops.map _
    exact List.map_congr_left fun y hy => same y (F.ref (.inl hy))
  · show (pt W.marks W.many (top W h)).map _ = W.marks.map _ ++ _
    rw [pt_new nm, List.map_append]
    congr 1
    · refine List.map_congr_left fun q hq => ?_
      rw [same q.2 (F.ref (.inr (List.mem_map.mpr ⟨q, hq, rfl⟩)))]
    · simp only [List.map_cons, List.map_nil]
      rw [same _ (F.topIn h)]
theorem doForget_ok (F : WFW W) {p : Int} {W' : Wd} (e : doForget W p = .ok W') : ∃ x, lk W.marks p = some x ∧ Leave W.frames x W'.frames ∧ WFW W' ∧ vals W' = vals W ∧ kept W' = dr (kept W) p ∧ W'.many = W.many := by
  unfold doForget at e
  split at e
  · cases e
  rename_i x hx
  have e2 := Except.ok.inj e
  have e1 : ∀ r, cW W r = (cR W.tops r + cR (mv (dr W.marks p)) r) + one x r := fun r => by
    have := mv_dr F.ndm hx r
    show cR W.tops r + cR (mv W.marks) r = _
    omega
  obtain ⟨gs, l1, w2, s1⟩ := WF.leave _ rfl (F.wf.ext e1)
  have eg : leave W.frames x = gs := l1.eq F.wf.nd
  rw [eg] at e2
  subst e2
  have F' : WFW { W with frames := gs, marks := dr W.marks p } := by
    refine ⟨w2, F.r1, F.r40, fun r hr => ?_, by rw [show ks (dr W.marks p) = _ from ks_dr _ _]; exact F.ms.filter _, fun q hq => ?_, F.m0, F.h1, F.h6⟩
    · obtain ⟨g, hg⟩ := mem_ks.mp hr
      obtain ⟨f, hf, _⟩ := s1 r g hg
      exact F.rng r (mem_ks.mpr ⟨f, hf⟩)
    · rw [show ks (dr W.marks p) = _ from ks_dr _ _] at hq
      exact F.mr q (List.mem_filter.mp hq).1
  have vs : ∀ y, y ∈ W.tops ∨ y ∈ mv (dr W.marks p) → vl gs y = vl W.frames y := fun y hy =>
    (vl_sub w2 s1 y (F'.ref hy)).2
  refine ⟨x, hx, l1, F', ?_, ?_, rfl⟩
  · show W.tops.map _ = W.tops.map _
    exact List.map_congr_left fun y hy => vs y (.inl hy)
  · show (dr W.marks p).map _ = dr (W.marks.map _) p
    have h1 : (dr W.marks p).map (fun q => (q.1, vl gs q.2)) = (dr W.marks p).map (fun q => (q.1, vl W.frames q.2)) := List.map_congr_left fun q hq => by
      rw [vs q.2 (.inr (List.mem_map.mpr ⟨q, hq, rfl⟩))]
    have h2 : dr (W.marks.map (fun q => (q.1, vl W.frames q.2))) p = (dr W.marks p).map (fun q => (q.1, vl W.frames q.2)) := by
      unfold dr; rw [List.filter_map]; rfl
    rw [h2]; exact h1
end
end SW
end
section
/-! SwPut: a value put into a call, in place or by copies. -/
namespace SW
def nd (fs : Fs) (r : Int) : Int := match lk fs r with
  | some f => f.needs
  | none => 0
theorem nd_of {fs : Fs} {r : Int} {f : Fr} (h : lk fs r = some f) : nd fs r = f.needs := by simp [nd, h]
def below (fs : Fs) (r : Int) : Option Int := match lk fs r with
  | some f => f.below
  | none => none
theorem below_of {fs : Fs} {r : Int} {f : Fr} (h : lk fs r = some f) : below fs r = f.below := by simp [below, h]
/-- the depths that others need -/
def sh (fs : Fs) (q : List Int) : List Nat := (List.range q.length).filter fun i => decide (1 < nd fs (q.getD i 0))
theorem sh_none {fs : Fs} {q : List Int} (h : (sh fs q).head? = none) : ∀ i, i < q.length → nd fs (q.getD i 0) ≤ 1 := fun i hi => by
  have e : sh fs q = [] := List.head?_eq_none_iff.mp h
  unfold sh at e
  rw [List.filter_eq_nil_iff] at e
  have := e i (List.mem_range.mpr hi)
  simp only [decide_eq_true_eq] at this
  omega
theorem sh_some {fs : Fs} {q : List Int} {i : Nat} (h : (sh fs q).head? = some i) : i < q.length ∧ 1 < nd fs (q.getD i 0) ∧ ∀ j, j < i → nd fs (q.getD j 0) ≤ 1 := by
  have hm : i ∈ sh fs q := List.mem_of_head? h
  have hs : (sh fs q).Pairwise (· < ·) := List.pairwise_lt_range.filter _
  unfold sh at hm
  obtain ⟨a, b⟩ := List.mem_filter.mp hm
  refine ⟨List.mem_range.mp a, by simpa using b, fun j hj => ?_⟩
  apply Decidable.byContradiction
  intro hc
  have jm : j ∈ sh fs q := List.mem_filter.mpr ⟨List.mem_range.mpr (by have := List.mem_range.mp a; omega), by simp only [decide_eq_true_eq]; omega⟩
  cases e : sh fs q with
  | nil => rw [e] at jm; simp at jm
  | cons x t =>
    rw [e] at h jm hs
    have hx : x = i := by simpa using h
    subst hx
    rcases List.mem_cons.mp jm with z | z
    · omega
    · have := (List.pairwise_cons.mp hs).1 j z; omega
/-- the copies, the deepest first: (frames, the room of the last copy, the rooms) -/
def copyL (rooms : Int) : Fs → Option Int → List Int → Fs × Option Int × List Int
  | fs, b, [] => (fs, b, [])
  | fs, b, o :: os =>
    let t := copyL rooms (pt fs (newRoom rooms fs) ⟨b, sl fs o, 1⟩) (some (newRoom rooms fs)) os
    (t.1, t.2.1, newRoom rooms fs :: t.2.2)
def setSlot (fs : Fs) (r : Int) (s : Int) (v : Int) : Fs := match lk fs r with
  | none => fs
  | some f => pt fs r { f with slots := f.slots.set s.toNat v }
def setBelow (fs : Fs) (r : Int) (b : Option Int) : Fs := match lk fs r with
  | none => fs
  | some f => pt fs r { f with below := b }
def doWay (W : Wd) (h d : Int) : Except Er (List Int × Option Nat) :=
  if ¬ hOk W h then .error .hand
  else if ¬ (0 ≤ d ∧ d < ((path W.frames (top W h)).length : Int)) then .error .call
  else .ok ((path W.frames (top W h)).take (d.toNat + 1), (sh W.frames ((path W.frames (top W h)).take (d.toNat + 1))).head?)
def doPrice (W : Wd) (h d : Int) : Except Er Int := match doWay W h d with
  | .error e => .error e
  | .ok (_, none) => .ok 0
  | .ok (_, some i) => .ok (d - i + 1)
/-- the copies of q from depth i on, for hand h -/
def copied (W : Wd) (h : Int) (q : List Int) (i : Nat) : Int × Wd :=
  let b := below W.frames (q.getD (q.length - 1) 0)
  let t := copyL W.rooms (wantF W.frames b) b (q.drop i).reverse
  let fs3 := leave t.1 (some (q.getD i 0))
  (t.2.2.headD 0, if i = 0 then { W with frames := fs3, tops := W.tops.set h.toNat t.2.1, made := W.made + t.2.2.length }
    else { W with frames := setBelow fs3 (q.getD (i - 1) 0) t.2.1, made := W.made + t.2.2.length })
def doPut (W : Wd) (h d s v : Int) : Except Er (Int × Wd) := match doWay W h d with
  | .error e => .error e
  | .ok (q, o) =>
    if ¬ (0 ≤ s ∧ s < ((sl W.frames (q.getD d.toNat 0)).length : Int)) then .error .slot
    else match o with
      | none => .ok (0, { W with frames := setSlot W.frames (q.getD d.toNat 0) s v })
      | some i =>
        if W.rooms < (W.frames.length : Int) + (d - i + 1) then .error .room
        else .ok (d - i + 1, { (copied W h q i).2 with frames := setSlot (copied W h q i).2.frames (copied W h q i).1 s v })

/-! ### copies -/
structure Copies (rooms : Int) (c : Int → Nat) (fs : Fs) (b : Option Int) (os : List Int) (t : Fs × Option Int × List Int) : Prop where
  wf : WF t.1 (fun k => c k + one t.2.1 k)
  len : t.2.2.length = os.length
  keys : ks t.1 = ks fs ++ t.2.2
  rng : ∀ r ∈ t.2.2, 1 ≤ r ∧ r ≤ rooms
  fresh : ∀ r ∈ t.2.2, lk fs r = none
  old : ∀ r f, lk fs r = some f → lk t.1 r = some f
  slots : t.2.2.map (sl t.1) = os.map (sl fs)
  path : ∀ m, Path fs b m → Path t.1 t.2.1 (t.2.2.reverse ++ m)
theorem copyL_ok {rooms : Int} {c : Int → Nat} : ∀ (os : List Int) {fs : Fs} {b : Option Int}, WF fs (fun k => c k + one b k) → (∀ r ∈ ks fs, 1 ≤ r ∧ r ≤ rooms) → (∀ o ∈ os, ∃ f, lk fs o = some f) → (fs.length : Int) + os.length ≤ rooms →
    Copies rooms c fs b os (copyL rooms fs b os)
  | [], fs, b, h, rng, hos, hl => ⟨h, rfl, by simp [copyL], by simp [copyL], by simp [copyL], fun _ _ e => e, by simp [copyL], fun m p => by simpa [copyL] using p⟩
  | o :: os, fs, b, h, rng, hos, hl => by
    have hl' : (fs.length : Int) + (os.length + 1) ≤ rooms := by simpa using hl
    have nin := newRoom_in h.nd rng (show (fs.length : Int) + 1 ≤ rooms by omega)
    obtain ⟨nr, nn⟩ := mem_freeR.mp nin
    have hn := h.new (sl fs o) nn
    generalize er : newRoom rooms fs = r at nr nn hn nin
    have ek : ks (pt fs r ⟨b, sl fs o, 1⟩) = ks fs ++ [r] := ks_pt_new nn
    have lold : ∀ k f, lk fs k = some f → lk (pt fs r ⟨b, sl fs o, 1⟩) k = some f := fun k f e => by
      rw [lk_pt_ne (fun z => by rw [z, nn] at e; cases e)]; exact e
    have ih := copyL_ok os (fs := pt fs r ⟨b, sl fs o, 1⟩) (b := some r) hn (fun k hk => by
        rw [ek] at hk
        rcases List.mem_append.mp hk with z | z
        · exact rng k z
        · have : k = r := by simpa using z
          rw [this]; exact nr)
      (fun o' ho => by
        obtain ⟨f, hf⟩ := hos o' (List.mem_cons_of_mem _ ho)
        exact ⟨f, lold _ _ hf⟩)
      (by rw [len_pt_new nn]; omega)
    have et : copyL rooms fs b (o :: os) = ((copyL rooms (pt fs r ⟨b, sl fs o, 1⟩) (some r) os).1, (copyL rooms (pt fs r ⟨b, sl fs o, 1⟩) (some r) os).2.1, r :: (copyL rooms (pt fs r ⟨b, sl fs o, 1⟩) (some r) os).2.2) := by
      subst er; rfl
    rw [et]
    generalize copyL rooms (pt fs r ⟨b, sl fs o, 1⟩) (some r) os = t at ih
    obtain ⟨gs, x, rs⟩ := t
    obtain ⟨i1, i2, i3, i4, i5, i6, i7, i8⟩ := ih
    have slold : ∀ k f, lk fs k = some f → sl (pt fs r ⟨b, sl fs o, 1⟩) k = sl fs k := fun k f e => by rw [sl_of e, sl_of (lold k f e)]
    refine ⟨i1, by simpa using i2, ?_, fun k hk => ?_, fun k hk => ?_, fun k f e => i6 k f (lold k f e), ?_, fun m p => ?_⟩
    · show ks gs = ks fs ++ (r :: rs)
      have i3' : ks gs = ks (pt fs r ⟨b, sl fs o, 1⟩) ++ rs := i3
      rw [i3', ek, List.append_assoc]; rfl
    · rcases List.mem_cons.mp hk with z | z
      · rw [z]; exact nr
      · exact i4 k z
    · rcases List.mem_cons.mp hk with z | z
      · rw [z]; exact nn
      · have := i5 k z
        by_cases e : k = r
        · rw [e]; exact nn
        · rw [lk_pt_ne e] at this; exact this
    · show List.map (sl gs) (r :: rs) = List.map (sl fs) (o :: os)
      have i7' : rs.map (sl gs) = os.map (sl (pt fs r ⟨b, sl fs o, 1⟩)) := i7
      rw [List.map_cons, List.map_cons, i7']
      congr 1
      · rw [sl_of (i6 r _ (lk_pt_same _ _ _))]
      · exact List.map_congr_left fun k hk => by
          obtain ⟨f, hf⟩ := hos k (List.mem_cons_of_mem _ hk)
          exact slold k f hf
    · have := i8 (r :: m) (.cons (lk_pt_same _ _ _) (path_pt_new nn p))
      show Path gs x ((r :: rs).reverse ++ m)
      simpa using this

/-! ### a call stands on another one from now on -/
theorem WF.redirect {fs : Fs} {c : Int → Nat} {b : Option Int} {p q : Int} {fp fq : Fr} {m : List Int} (h : WF fs (fun k => c k + one b k)) (hp : lk fs p = some fp) (hb : fp.below = some q) (hq : lk fs q = some fq) (hn : 1 < fq.needs) (pm : Path fs b m) (np : p ∉ m) (pq : p ≠ q) :
    WF (pt (pt fs q { fq with needs := fq.needs - 1 }) p { fp with below := b }) c := by
  have e1 : ∀ k, cb (pt fs q { fq with needs := fq.needs - 1 }) k = cb fs k := fun k => cb_pt_same (v := { fq with needs := fq.needs - 1 }) hq rfl k
  have hp2 : lk (pt fs q { fq with needs := fq.needs - 1 }) p = some fp := by rw [lk_pt_ne pq]; exact hp
  have nd1 := nd_pt (k := q) (v := { fq with needs := fq.needs - 1 }) h.nd
  have e2 : ∀ k, cb (pt (pt fs q { fq with needs := fq.needs - 1 }) p { fp with below := b }) k + one (some q) k = cb fs k + one b k := fun k => by
    have := cb_pt (v := { fp with below := b }) hp2 k
    rw [e1, hb] at this
    exact this
  have look : ∀ k g, lk (pt (pt fs q { fq with needs := fq.needs - 1 }) p { fp with below := b }) k = some g → ∃ f, lk fs k = some f ∧ g.needs = f.needs - one (some q) k ∧ (k = p → g.below = b) ∧ (k ≠ p → g.below = f.below) := fun k g e => by
    by_cases z : k = p
    · subst z; rw [lk_pt_same] at e; cases e
      refine ⟨fp, hp, ?_, fun _ => rfl, fun z => absurd rfl z⟩
      rw [one_ne (fun w => pq (Option.some.inj w).symm)]; simp
    · rw [lk_pt_ne z] at e
      by_cases w : k = q
      · subst w; rw [lk_pt_same] at e; cases e
        exact ⟨fq, hq, by rw [one_same]; rfl, fun y => absurd y z, fun _ => rfl⟩
      · rw [lk_pt_ne w] at e
        refine ⟨g, e, ?_, fun y => absurd y z, fun _ => rfl⟩
        rw [one_ne (fun y => w (Option.some.inj y).symm)]; simp
  have back : ∀ k f, lk fs k = some f → ∃ g, lk (pt (pt fs q { fq with needs := fq.needs - 1 }) p { fp with below := b }) k = some g := fun k f e => by
    by_cases z : k = p
    · subst z; exact ⟨_, lk_pt_same _ _ _⟩
    · rw [lk_pt_ne z]
      by_cases w : k = q
      · subst w; exact ⟨_, lk_pt_same _ _ _⟩
      · rw [lk_pt_ne w]; exact ⟨f, e⟩
  have keep : ∀ k f, k ≠ p → lk fs k = some f → ∃ g, lk (pt (pt fs q { fq with needs := fq.needs - 1 }) p { fp with below := b }) k = some g ∧ g.below = f.below := fun k f z e => by
    obtain ⟨g, hg⟩ := back k f e
    obtain ⟨f', h1, _, _, h2⟩ := look k g hg
    rw [e] at h1; cases h1
    exact ⟨g, hg, h2 z⟩
  have pm' : Path (pt (pt fs q { fq with needs := fq.needs - 1 }) p { fp with below := b }) b m := pm.congr fun k hk f e => keep k f (fun z => np (by rw [← z]; exact hk)) e
  have paths : ∀ {x : Option Int} {l : List Int}, Path fs x l → ∃ l', Path (pt (pt fs q { fq with needs := fq.needs - 1 }) p { fp with below := b }) x l' := by
    intro x l hl
    induction hl with
    | nil => exact ⟨[], .nil⟩
    | @cons r f l e _ ih =>
      obtain ⟨l', hl'⟩ := ih
      by_cases z : r = p
      · subst z
        exact ⟨_, .cons (lk_pt_same _ _ _) pm'⟩
      · obtain ⟨g, h1, h2⟩ := keep r f z e
        exact ⟨_, .cons h1 (h2 ▸ hl')⟩
  refine ⟨nd_pt nd1, fun k g e => ?_, fun k g e => ?_, fun k hk => ?_, fun k g y e hy => ?_, fun k g e => ?_⟩
  · obtain ⟨f, h1, h2, _⟩ := look k g e
    have a := h.nb k f h1
    have a : f.needs = ((c k + one b k + cb fs k : Nat) : Int) := a
    have d := e2 k
    omega
  · obtain ⟨f, h1, h2, _⟩ := look k g e
    have := h.pos k f h1
    by_cases w : k = q
    · subst w; rw [hq] at h1; cases h1; rw [one_same] at h2; omega
    · rw [one_ne (fun y => w (Option.some.inj y).symm)] at h2; omega
  · obtain ⟨f, hf⟩ := h.cin k (by show 1 ≤ c k + one b k; omega)
    exact back k f hf
  · obtain ⟨f, h1, _, h3, h4⟩ := look k g e
    by_cases z : k = p
    · rw [h3 z] at hy
      obtain ⟨f', hf'⟩ := h.cin y (by show 1 ≤ c y + one b y; rw [hy, one_same]; omega)
      exact back y f' hf'
    · rw [h4 z] at hy
      obtain ⟨f', hf'⟩ := h.bin k f y h1 hy
      exact back y f' hf'
  · obtain ⟨f, h1, _⟩ := look k g e
    obtain ⟨l, hl⟩ := h.fin k f h1
    exact paths hl
/-- the values of a call are others -/
theorem WF.slots {fs : Fs} {c : Int → Nat} {r : Int} {f : Fr} (h : WF fs c) (e : lk fs r = some f) (zs : List Int) : WF (pt fs r { f with slots := zs }) c := by
  have e1 : ∀ k, cb (pt fs r { f with slots := zs }) k = cb fs k := fun k => cb_pt_same (v := { f with slots := zs }) e rfl k
  have look : ∀ k g, lk (pt fs r { f with slots := zs }) k = some g → ∃ f', lk fs k = some f' ∧ g.needs = f'.needs ∧ g.below = f'.below := fun k g hk => by
    by_cases z : k = r
    · subst z; rw [lk_pt_same] at hk; cases hk; exact ⟨f, e, rfl, rfl⟩
    · rw [lk_pt_ne z] at hk; exact ⟨g, hk, rfl, rfl⟩
  have back : ∀ k f', lk fs k = some f' → ∃ g, lk (pt fs r { f with slots := zs }) k = some g ∧ g.below = f'.below := fun k f' hk => by
    by_cases z : k = r
    · subst z; rw [e] at hk; cases hk; exact ⟨_, lk_pt_same _ _ _, rfl⟩
    · exact ⟨f', by rw [lk_pt_ne z]; exact hk, rfl⟩
  refine ⟨nd_pt h.nd, fun k g hk => ?_, fun k g hk => ?_, fun k hk => ?_, fun k g y hk hy => ?_, fun k g hk => ?_⟩
  · obtain ⟨f', h1, h2, _⟩ := look k g hk
    rw [e1, h2]; exact h.nb k f' h1
  · obtain ⟨f', h1, h2, _⟩ := look k g hk
    rw [h2]; exact h.pos k f' h1
  · obtain ⟨f', h1⟩ := h.cin k hk
    obtain ⟨g, h2, _⟩ := back k f' h1
    exact ⟨g, h2⟩
  · obtain ⟨f', h1, _, h3⟩ := look k g hk
    obtain ⟨f'', h4⟩ := h.bin k f' y h1 (h3 ▸ hy)
    obtain ⟨g', h5, _⟩ := back y f'' h4
    exact ⟨g', h5⟩
  · obtain ⟨f', h1, _⟩ := look k g hk
    obtain ⟨l, hl⟩ := h.fin k f' h1
    exact ⟨l, hl.congr fun k' _ f0 e0 => back k' f0 e0⟩
end SW
end
section
/-! SwPut2: a put changes one pile alone. -/
namespace SW
theorem map_set_of {α β : Type} {l : List α} {f g : α → β} {h : Nat} {z : β} (o : ∀ j x, l[j]? = some x → j ≠ h → f x = g x) (e : ∀ x, l[h]? = some x → f x = z) : l.map f = (l.map g).set h z := by
  apply List.ext_getElem?
  intro j
  rw [List.getElem?_set, List.getElem?_map, List.getElem?_map]
  by_cases q : h = j
  · subst q
    rw [if_pos rfl, List.length_map]
    cases x : l[h]? with
    | none =>
      have : ¬ h < l.length := by have := List.getElem?_eq_none_iff.mp x; omega
      simp [this]
    | some a =>
      have : h < l.length := (List.getElem?_eq_some_iff.mp x).1
      simp [this, e a x]
  · rw [if_neg q]
    cases x : l[j]? with
    | none => rfl
    | some a => simp [o j a x (fun w => q w.symm)]
theorem set_map_of {α β : Type} {l : List α} {f g : α → β} {h : Nat} {b : α} (o : ∀ j x, l[j]? = some x → j ≠ h → f x = g x) (e : ∀ x, l[h]? = some x → f b = g x) : (l.set h b).map f = l.map g := by
  apply List.ext_getElem?
  intro j
  rw [List.getElem?_map, List.getElem?_set, List.getElem?_map]
  by_cases q : h = j
  · subst q
    rw [if_pos rfl]
    cases x : l[h]? with
    | none =>
      have : ¬ h < l.length := by have := List.getElem?_eq_none_iff.mp x; omega
      simp [this]
    | some a =>
      have : h < l.length := (List.getElem?_eq_some_iff.mp x).1
      simp [this, e a x]
  · rw [if_neg q]
    cases x : l[j]? with
    | none => rfl
    | some a => simp [o j a x (fun w => q w.symm)]
theorem nodup_ne {l : List Int} (nd : l.Nodup) {i j : Nat} {a b : Int} (h : l[i]? = some a) (k : l[j]? = some b) (n : i ≠ j) : a ≠ b := fun z => by
  subst z
  obtain ⟨ha, hae⟩ := List.getElem?_eq_some_iff.mp h
  obtain ⟨hb, hbe⟩ := List.getElem?_eq_some_iff.mp k
  exact n ((List.getElem_inj (h₀ := ha) (h₁ := hb) nd).mp (by rw [hae, hbe]))
theorem Path.mem_from {fs : Fs} {y : Option Int} {m : List Int} (h : Path fs y m) : ∀ r ∈ m, y = some r ∨ ∃ k ∈ m, ∃ f, lk fs k = some f ∧ f.below = some r := by
  induction h with
  | nil => intro r hr; simp at hr
  | @cons r0 f l e _ ih =>
    intro r hr
    rcases List.mem_cons.mp hr with z | z
    · exact .inl (by rw [z])
    · rcases ih r z with w | ⟨k, hk, g, h1, h2⟩
      · exact .inr ⟨r0, List.mem_cons_self, f, e, w⟩
      · exact .inr ⟨k, List.mem_cons_of_mem _ hk, g, h1, h2⟩
theorem Path.head {fs : Fs} {x : Option Int} {l : List Int} (h : Path fs x l) {a : Int} (ha : l[0]? = some a) : x = some a := by
  cases h with
  | nil => simp at ha
  | cons e p => simp at ha; rw [ha]
theorem Path.next {fs : Fs} {x : Option Int} {l : List Int} (h : Path fs x l) : ∀ {i : Nat} {a b : Int}, l[i]? = some a → l[i + 1]? = some b → ∃ f, lk fs a = some f ∧ f.below = some b := by
  induction h with
  | nil => intro i a b ha; simp at ha
  | @cons r0 f l e p ih =>
    intro i a b ha hb
    cases i with
    | zero =>
      have : r0 = a := by simpa using ha
      subst this
      exact ⟨f, e, p.head (by simpa using hb)⟩
    | succ i => exact ih (by simpa using ha) (by simpa using hb)
/-- the references but the hand's -/
def oth (W : Wd) (h : Int) (r : Int) : Nat := cR (W.tops.set h.toNat none) r + cR (mv W.marks) r
theorem cW_oth {W : Wd} {h : Int} (k : hOk W h) (r : Int) : cW W r = oth W h r + one (top W h) r := by
  have := set_count k none r
  rw [one_none] at this
  unfold cW oth
  omega
/-- y is another reference than the hand's -/
def Other (W : Wd) (h : Int) (y : Option Int) : Prop := ∀ r, y = some r → 1 ≤ oth W h r
theorem other_top {W : Wd} {h : Int} {j : Nat} {y : Option Int} (e : W.tops[j]? = some y) (n : j ≠ h.toNat) : Other W h y := fun r er => by
  subst er
  have : some r ∈ W.tops.set h.toNat none := by
    have : (W.tops.set h.toNat none)[j]? = some (some r) := by rw [List.getElem?_set_ne (Ne.symm n)]; exact e
    exact List.mem_of_getElem? this
  have := cR_ge this
  unfold oth; omega
theorem other_mark {W : Wd} {h : Int} {y : Option Int} (e : y ∈ mv W.marks) : Other W h y := fun r er => by
  subst er
  have := cR_ge e
  unfold oth; omega
theorem Other.in {W : Wd} (F : WFW W) {h : Int} (k : hOk W h) {y : Option Int} (o : Other W h y) : ∀ r, y = some r → ∃ f, lk W.frames r = some f := fun r e => by
  have := o r e
  exact F.wf.cin r (by rw [cW_oth k]; omega)
/-- a call down to which none is needed twice stands in no other pile -/
theorem excl {W : Wd} (F : WFW W) {h : Int} (k : hOk W h) {l : List Int} (p : Path W.frames (top W h) l) : ∀ (i : Nat) {a : Int}, l[i]? = some a → (∀ j b, j ≤ i → l[j]? = some b → nd W.frames b ≤ 1) → ∀ y m, Path W.frames y m → Other W h y → a ∉ m
  | 0, a, ha, hn, y, m, pm, o, hm => by
    have et := p.head ha
    obtain ⟨f, hf⟩ := p.in a (List.mem_of_getElem? ha)
    have n1 := hn 0 a (Nat.le_refl _) ha
    rw [nd_of hf] at n1
    have nb := F.wf.nb a f hf
    have cw := cW_oth k a
    rw [et, one_same] at cw
    rcases pm.mem_from a hm with z | ⟨b, _, g, h1, h2⟩
    · have := o a z; omega
    · have := cb_ge h1 h2; omega
  | i + 1, a, ha, hn, y, m, pm, o, hm => by
    have hi : i < l.length := by have := (List.getElem?_eq_some_iff.mp ha).1; omega
    have hb : l[i]? = some l[i] := List.getElem?_eq_getElem hi
    have ih := excl F k p i hb (fun j b hj e => hn j b (by omega) e) y m pm o
    obtain ⟨f0, h0, hb0⟩ := p.next hb ha
    obtain ⟨f, hf⟩ := p.in a (List.mem_of_getElem? ha)
    have n1 := hn (i + 1) a (Nat.le_refl _) ha
    rw [nd_of hf] at n1
    have nb := F.wf.nb a f hf
    have cw := cW_oth k a
    have c1 := cb_ge h0 hb0
    rcases pm.mem_from a hm with z | ⟨b, hbm, g, h1, h2⟩
    · have := o a z; omega
    · have ne : l[i] ≠ b := fun w => ih (by rw [w]; exact hbm)
      have := cb_two F.wf.nd h0 h1 ne hb0 h2
      omega
theorem WFW.tpath {W : Wd} (F : WFW W) (h : Int) : Path W.frames (top W h) (path W.frames (top W h)) := F.wf.path _ (F.topIn h)
theorem top_get {W : Wd} {h : Int} (k : hOk W h) : W.tops[h.toNat]? = some (top W h) := by
  obtain ⟨a, b⟩ := k
  have : h.toNat < W.tops.length := by omega
  unfold top
  rw [List.getD_eq_getElem?_getD, List.getElem?_eq_getElem this]; rfl

theorem len_ks {α : Type} (l : List (Int × α)) : l.length = (ks l).length := by simp [ks]
/-! ### in place -/
theorem setSlot_ok {V : Wd} (F : WFW V) {h : Int} (k : hOk V h) {d : Nat} {r : Int} (s v : Int) (idx : (path V.frames (top V h))[d]? = some r) (hy : ∀ y m, Path V.frames y m → Other V h y → r ∉ m) :
    WFW { V with frames := setSlot V.frames r s v } ∧ vals { V with frames := setSlot V.frames r s v } = (vals V).set h.toNat ((vl V.frames (top V h)).set d ((sl V.frames r).set s.toNat v)) ∧ kept { V with frames := setSlot V.frames r s v } = kept V := by
  have p := F.tpath h
  obtain ⟨f, hf⟩ := p.in r (List.mem_of_getElem? idx)
  have ef : setSlot V.frames r s v = pt V.frames r { f with slots := f.slots.set s.toNat v } := by simp [setSlot, hf]
  rw [ef]
  have oth' : ∀ y, Other V h y → vl (pt V.frames r { f with slots := f.slots.set s.toNat v }) y = vl V.frames y := fun y o => by
    have py := F.wf.path y (o.in F k)
    have nr := hy y _ py o
    exact (vl_congr py fun q hq g e => ⟨g, by rw [lk_pt_ne (fun z => nr (by rw [← z]; exact hq))]; exact e, rfl, rfl⟩).2
  refine ⟨⟨F.wf.slots hf _, F.r1, F.r40, fun q hq => ?_, F.ms, F.mr, F.m0, F.h1, F.h6⟩, ?_, ?_⟩
  · rw [show ks (pt V.frames r { f with slots := f.slots.set s.toNat v }) = ks V.frames from ks_pt_old (mem_ks.mpr ⟨f, hf⟩)] at hq
    exact F.rng q hq
  · refine map_set_of (fun j x e n => oth' x (other_top e n)) fun x e => ?_
    rw [top_get k] at e
    have ex := Option.some.inj e
    subst ex
    have p2 : Path (pt V.frames r { f with slots := f.slots.set s.toNat v }) (top V h) (path V.frames (top V h)) := p.congr fun q hq g e => by
      by_cases z : q = r
      · subst z; rw [hf] at e; cases e; exact ⟨_, lk_pt_same _ _ _, rfl⟩
      · exact ⟨g, by rw [lk_pt_ne z]; exact e, rfl⟩
    unfold vl
    rw [p2.eq]
    refine map_set_of (fun j x e n => ?_) fun x e => ?_
    · have ne : x ≠ r := fun z => by
        subst z
        have a := (List.getElem?_eq_some_iff.mp e)
        have b := (List.getElem?_eq_some_iff.mp idx)
        obtain ⟨ha, hae⟩ := a
        obtain ⟨hb, hbe⟩ := b
        have := (List.getElem_inj (h₀ := ha) (h₁ := hb) p.nodup).mp (by rw [hae, hbe])
        exact n this
      unfold sl; rw [lk_pt_ne ne]
    · rw [idx] at e
      have := Option.some.inj e
      subst this
      rw [sl_of (lk_pt_same _ _ _), sl_of hf]
  · show V.marks.map _ = V.marks.map _
    refine List.map_congr_left fun q hq => ?_
    rw [oth' q.2 (other_mark (List.mem_map.mpr ⟨q, hq, rfl⟩))]

/-! ### by copies -/
theorem Path.drop {fs : Fs} {x : Option Int} {l : List Int} (p : Path fs x l) : ∀ {i : Nat} {a : Int}, l[i]? = some a → ∃ f, lk fs a = some f ∧ Path fs f.below (l.drop (i + 1)) := by
  induction p with
  | nil => intro i a h; simp at h
  | @cons r f l e p ih =>
    intro i a h
    cases i with
    | zero =>
      have : r = a := by simpa using h
      subst this; exact ⟨f, e, p⟩
    | succ i => exact ih (by simpa using h)
theorem Path.splice {fs gs : Fs} {p b : Int} : ∀ (l1 : List Int) {x : Option Int} {l2 m : List Int} {g : Fr}, Path fs x (l1 ++ p :: l2) → (∀ r ∈ l1, ∀ f, lk fs r = some f → ∃ g, lk gs r = some g ∧ g.below = f.below) → lk gs p = some g → Path gs g.below m → Path gs x (l1 ++ p :: m)
  | [], x, l2, m, g, h, _, hg, pm => by
    cases h with
    | cons e p => exact .cons hg pm
  | a :: l1, x, l2, m, g, h, k, hg, pm => by
    cases h with
    | cons e p =>
      obtain ⟨g', h1, h2⟩ := k a List.mem_cons_self _ e
      exact .cons h1 (h2 ▸ Path.splice (b := b) l1 p (fun r hr => k r (List.mem_cons_of_mem _ hr)) hg pm)
theorem leave_more {fs : Fs} {r : Int} {f : Fr} (h : lk fs r = some f) (g : 1 < f.needs) : leave fs (some r) = pt fs r { f with needs := f.needs - 1 } := by
  unfold leave
  simp only [leaveF, h]
  rw [if_pos (by omega)]
structure Copied (W : Wd) (h : Int) (d : Nat) (n : Nat) (r : Int) (V : Wd) : Prop where
  wfw : WFW V
  hok : hOk V h
  vals : vals V = vals W
  kept : kept V = kept W
  at_ : (path V.frames (top V h))[d]? = some r
  new : ∀ y m, Path V.frames y m → Other V h y → r ∉ m
  many : V.many = W.many
  made : V.made = W.made + n
  rooms : V.rooms = W.rooms
  len : V.frames.length = W.frames.length + n
  pth : ∃ (i : Nat) (ns : List Int), i + n = d + 1 ∧ ns.length = n ∧ ns.Nodup ∧ (∀ r ∈ ns, lk W.frames r = none) ∧ path V.frames (top V h) = (path W.frames (top W h)).take i ++ (ns ++ (path W.frames (top W h)).drop (d + 1)) ∧ ks V.frames = ks W.frames ++ ns.reverse ∧ V.marks = W.marks ∧ (V.tops.length = W.tops.length ∧ ∀ j, j ≠ h.toNat → V.tops[j]? = W.tops[j]?) ∧ ∀ y, Other W h y → path V.frames y = path W.frames y
theorem copied_ok {W : Wd} (F : WFW W) {h : Int} (k : hOk W h) {d i : Nat} {l q : List Int} (el : path W.frames (top W h) = l) (hd : d < l.length) (eq : l.take (d + 1) = q) (hs : (sh W.frames q).head? = some i) (room : (W.frames.length : Int) + ((d : Int) - i + 1) ≤ W.rooms) :
    Copied W h d (d - i + 1) (copied W h q i).1 (copied W h q i).2 := by
  obtain ⟨si, sn, slt⟩ := sh_some hs
  have ql : q.length = d + 1 := by rw [← eq, List.length_take]; omega
  have qg : ∀ j, j ≤ d → q.getD j 0 = l.getD j 0 := fun j hj => by
    rw [List.getD_eq_getElem?_getD, List.getD_eq_getElem?_getD, ← eq, List.getElem?_take_of_lt (by omega)]
  have lg : ∀ j, j ≤ d → l[j]? = some (l.getD j 0) := fun j hj => by
    rw [List.getD_eq_getElem?_getD, List.getElem?_eq_getElem (by omega)]; rfl
  have hid : i ≤ d := by omega
  have p := F.tpath h
  rw [el] at p
  -- the deepest
  have ea : q.getD (q.length - 1) 0 = l.getD d 0 := by rw [ql]; exact qg d (Nat.le_refl _)
  obtain ⟨fd, hfd, pd⟩ := p.drop (lg d (Nat.le_refl _))
  have eb : below W.frames (q.getD (q.length - 1) 0) = fd.below := by rw [ea]; exact below_of hfd
  have hbin : ∀ r, fd.below = some r → ∃ f, lk W.frames r = some f := fun r e => F.wf.bin _ fd r hfd e
  have w1 := F.wf.want fd.below hbin
  have kw := ks_want W.frames fd.below
  have pdw : Path (wantF W.frames fd.below) fd.below (l.drop (d + 1)) := pd.congr fun r _ f e => by
    obtain ⟨g, h1, h2, _⟩ := want_in (x := fd.below) e
    exact ⟨g, h1, h2⟩
  have hos : ∀ o ∈ (q.drop i).reverse, ∃ f, lk (wantF W.frames fd.below) o = some f := fun o ho => by
    have hq : o ∈ l := by
      have := List.mem_of_mem_drop (List.mem_reverse.mp ho)
      rw [← eq] at this
      exact List.mem_of_mem_take this
    obtain ⟨f, hf⟩ := p.in o hq
    obtain ⟨g, h1, _⟩ := want_in (x := fd.below) hf
    exact ⟨g, h1⟩
  have lw : (wantF W.frames fd.below).length = W.frames.length := by
    have := congrArg List.length kw
    simpa [ks] using this
  have C := copyL_ok (rooms := W.rooms) (c := cW W) (q.drop i).reverse w1 (fun r hr => by rw [kw] at hr; exact F.rng r hr) hos (by rw [lw, List.length_reverse, List.length_drop, ql]; omega)
  have eqi : q.getD i 0 = l.getD i 0 := qg i hid
  have ecop : copied W h q i = (let t := copyL W.rooms (wantF W.frames fd.below) fd.below (q.drop i).reverse
    (t.2.2.headD 0, if i = 0 then { W with frames := leave t.1 (some (l.getD i 0)), tops := W.tops.set h.toNat t.2.1, made := W.made + t.2.2.length }
      else { W with frames := setBelow (leave t.1 (some (l.getD i 0))) (q.getD (i - 1) 0) t.2.1, made := W.made + t.2.2.length })) := by
    unfold copied; rw [eb, eqi]
  rw [ecop]
  generalize copyL W.rooms (wantF W.frames fd.below) fd.below (q.drop i).reverse = t at C
  obtain ⟨f2, b, rs⟩ := t
  obtain ⟨cw, clen, ckeys, crng, cfresh, cold, cslots, cpath⟩ := C
  simp only at cw clen ckeys crng cfresh cold cslots cpath
  have rlen : rs.length = d - i + 1 := by rw [clen, List.length_reverse, List.length_drop, ql]; omega
  have rne : rs ≠ [] := fun z => by rw [z] at rlen; simp at rlen
  -- old rooms, as they were but for the needs
  have oldW : ∀ r f, lk W.frames r = some f → ∃ g, lk f2 r = some g ∧ g.below = f.below ∧ g.slots = f.slots := fun r f e => by
    obtain ⟨g, h1, h2, h3⟩ := want_in (x := fd.below) e
    exact ⟨g, cold r g h1, h2, h3⟩
  have freshW : ∀ r ∈ rs, lk W.frames r = none := fun r hr => by
    have := cfresh r hr
    rw [← not_mem_ks] at this ⊢
    rw [← kw]; exact this
  have pb : Path f2 b (rs.reverse ++ l.drop (d + 1)) := cpath _ pdw
  -- the copies' values
  have slq : rs.reverse.map (sl f2) = (q.drop i).map (sl W.frames) := by
    rw [List.map_reverse, cslots, ← List.map_reverse, List.reverse_reverse]
    refine List.map_congr_left fun o ho => ?_
    have hq : o ∈ l := by
      have := List.mem_of_mem_drop ho
      rw [← eq] at this
      exact List.mem_of_mem_take this
    obtain ⟨f, hf⟩ := p.in o hq
    obtain ⟨g, h1, _, h3⟩ := want_in (x := fd.below) hf
    rw [sl_of hf, sl_of h1, h3]
  have sld : (l.drop (d + 1)).map (sl f2) = (l.drop (d + 1)).map (sl W.frames) := List.map_congr_left fun o ho => by
    obtain ⟨f, hf⟩ := p.in o (List.mem_of_mem_drop ho)
    obtain ⟨g, h1, _, h3⟩ := oldW o f hf
    rw [sl_of hf, sl_of h1, h3]
  have qd : q.drop i ++ l.drop (d + 1) = l.drop i := by
    rw [← eq, List.drop_take, show d + 1 = i + (d + 1 - i) by omega, ← List.drop_drop]
    have : i + (d + 1 - i) - i = d + 1 - i := by omega
    rw [this]; exact List.take_append_drop _ _
  -- the shared one
  obtain ⟨fi, hfi⟩ := p.in (l.getD i 0) (List.mem_of_getElem? (lg i hid))
  have ni : 1 < nd W.frames (l.getD i 0) := by rw [← eqi]; exact sn
  obtain ⟨gi, hgi, hgb, hgs⟩ := oldW _ fi hfi
  have ngi : 1 < gi.needs := by
    rw [nd_of hfi] at ni
    obtain ⟨g0, h1, _⟩ := want_in (x := fd.below) hfi
    have e2 := cold _ g0 h1
    rw [hgi] at e2; cases e2
    have a := F.wf.nb _ _ hfi
    have bq := w1.nb _ _ h1
    have cbe : cb (wantF W.frames fd.below) (l.getD i 0) = cb W.frames (l.getD i 0) := by
      cases z : fd.below with
      | none => rfl
      | some x =>
        obtain ⟨fx, hx⟩ := hbin x z
        simp only [wantF, hx]
        exact cb_pt_same (v := { fx with needs := fx.needs + 1 }) hx rfl _
    rw [cbe] at bq
    omega
  have el3 := leave_more hgi ngi
  have rhead : rs[0]? = some (rs.headD 0) := by
    cases rs with
    | nil => exact absurd rfl rne
    | cons a t => rfl
  have rlast : rs.reverse[d - i]? = some (rs.headD 0) := by
    rw [List.getElem?_reverse (by omega)]
    have : rs.length - 1 - (d - i) = 0 := by omega
    rw [this]; exact rhead
  have rmem : rs.headD 0 ∈ rs := List.mem_of_getElem? rhead
  have rnd : rs.reverse.Nodup := (List.reverse_perm rs).nodup_iff.mpr (by
    have := cw.nd
    rw [ckeys] at this
    exact (List.nodup_append.mp this).2.1)
  have frR : ∀ r ∈ rs.reverse, lk W.frames r = none := fun r hr => freshW r (List.mem_reverse.mp hr)
  by_cases i0 : i = 0
  · subst i0
    simp only [if_true]
    have et : top W h = some (l.getD 0 0) := p.head (lg 0 (by omega))
    rw [el3]
    have hl : WF f2 (fun r => (oth W h r + one b r) + one (some (l.getD 0 0)) r) := cw.ext fun r => by
      have := cW_oth k r
      rw [et] at this
      omega
    obtain ⟨gs, g1, g2, g3⟩ := WF.leave _ rfl hl
    have eg : gs = pt f2 (l.getD 0 0) { gi with needs := gi.needs - 1 } := by rw [← g1.eq cw.nd, el3]
    subst eg
    have hk' : ks (pt f2 (l.getD 0 0) { gi with needs := gi.needs - 1 }) = ks f2 := ks_pt_old (mem_ks.mpr ⟨_, hgi⟩)
    have hfr : ∀ r f, lk f2 r = some f → ∃ g, lk (pt f2 (l.getD 0 0) { gi with needs := gi.needs - 1 }) r = some g ∧ g.below = f.below ∧ g.slots = f.slots := fun r f e => by
      by_cases z : r = l.getD 0 0
      · subst z; rw [hgi] at e; cases e; exact ⟨_, lk_pt_same _ _ _, rfl, rfl⟩
      · exact ⟨f, by rw [lk_pt_ne z]; exact e, rfl, rfl⟩
    have othV : ∀ r, cR (W.tops.set h.toNat b) r + cR (mv W.marks) r = oth W h r + one b r := fun r => by
      have a := set_count k none r
      have bq := set_count k b r
      rw [one_none] at a
      unfold oth
      omega
    have topV : top { W with frames := pt f2 (l.getD 0 0) { gi with needs := gi.needs - 1 }, tops := W.tops.set h.toNat b, made := W.made + rs.length } h = b := by
      show (W.tops.set h.toNat b).getD h.toNat none = b
      obtain ⟨a, bq⟩ := k
      have : h.toNat < W.tops.length := by omega
      rw [List.getD_eq_getElem?_getD, List.getElem?_set_self this]; rfl
    have sameV : ∀ y, Other W h y → path (pt f2 (l.getD 0 0) { gi with needs := gi.needs - 1 }) y = path W.frames y ∧ vl (pt f2 (l.getD 0 0) { gi with needs := gi.needs - 1 }) y = vl W.frames y := fun y o =>
      vl_congr (F.wf.path y (o.in F k)) fun r _ f e => by
        obtain ⟨g, h1, h2, h3⟩ := oldW r f e
        obtain ⟨g', k1, k2, k3⟩ := hfr r g h1
        exact ⟨g', k1, k2.trans h2, k3.trans h3⟩
    have pbV : Path (pt f2 (l.getD 0 0) { gi with needs := gi.needs - 1 }) b (rs.reverse ++ l.drop (d + 1)) := pb.congr fun r _ f e => by
      obtain ⟨g, h1, h2, _⟩ := hfr r f e
      exact ⟨g, h1, h2⟩
    have kV : hOk { W with frames := pt f2 (l.getD 0 0) { gi with needs := gi.needs - 1 }, tops := W.tops.set h.toNat b, made := W.made + rs.length } h := by
      obtain ⟨a, bq⟩ := k
      refine ⟨a, ?_⟩
      show h < ((W.tops.set h.toNat b).length : Int)
      rw [List.length_set]; exact bq
    have oV : ∀ y, Other { W with frames := pt f2 (l.getD 0 0) { gi with needs := gi.needs - 1 }, tops := W.tops.set h.toNat b, made := W.made + rs.length } h y → Other W h y := fun y o r e => by
      have := o r e
      unfold oth at this ⊢
      have z : (W.tops.set h.toNat b).set h.toNat none = W.tops.set h.toNat none := by rw [List.set_set]
      simp only [z] at this
      exact this
    refine ⟨⟨g2.ext fun r => (othV r).symm, F.r1, F.r40, fun r hr => ?_, F.ms, F.mr, F.m0, ?_, ?_⟩, kV, ?_, ?_, ?_, fun y m pm o hm => ?_, rfl, ?_, rfl, ?_, ⟨0, rs.reverse, by omega, by rw [List.length_reverse]; exact rlen, rnd, frR, by rw [topV, el, List.take_zero, List.nil_append]; exact pbV.eq, by rw [List.reverse_reverse, ← kw, ← ckeys]; exact hk', rfl, ⟨by show (W.tops.set h.toNat b).length = _; rw [List.length_set], fun j hj => by show (W.tops.set h.toNat b)[j]? = _; rw [List.getElem?_set_ne (Ne.symm hj)]⟩, fun y o => (sameV y o).1⟩⟩
    · rw [show ks _ = ks f2 from hk', ckeys, kw] at hr
      rcases List.mem_append.mp hr with z | z
      · exact F.rng r z
      · exact crng r z
    · show 1 ≤ (W.tops.set h.toNat b).length; rw [List.length_set]; exact F.h1
    · show (W.tops.set h.toNat b).length ≤ 6; rw [List.length_set]; exact F.h6
    · show (W.tops.set h.toNat b).map _ = W.tops.map (vl W.frames)
      have vb : vl (pt f2 (l.getD 0 0) { gi with needs := gi.needs - 1 }) b = vl W.frames (top W h) := by
        unfold vl
        rw [pbV.eq, el, List.map_append]
        have z : ∀ (ms : List Int), (∀ r ∈ ms, ∃ f, lk f2 r = some f) → ms.map (sl (pt f2 (l.getD 0 0) { gi with needs := gi.needs - 1 })) = ms.map (sl f2) := fun ms hm => List.map_congr_left fun r hr => by
          obtain ⟨f, hf⟩ := hm r hr
          obtain ⟨g, h1, _, h3⟩ := hfr r f hf
          rw [sl_of h1, sl_of hf, h3]
        have hin := pb.in
        rw [z _ (fun r hr => hin r (List.mem_append_left _ hr)), z _ (fun r hr => hin r (List.mem_append_right _ hr)), slq, sld, ← List.map_append, qd, List.drop_zero]
      refine set_map_of (fun j x e n => (sameV x (other_top e n)).2) fun x e => ?_
      rw [top_get k] at e
      rw [← Option.some.inj e]; exact vb
    · show W.marks.map _ = W.marks.map _
      refine List.map_congr_left fun x hx => ?_
      rw [(sameV x.2 (other_mark (List.mem_map.mpr ⟨x, hx, rfl⟩))).2]
    · rw [topV, pbV.eq, List.getElem?_append_left (by rw [List.length_reverse]; omega)]
      have := rlast
      simpa using this
    · have e := (sameV y (oV y o)).1
      have pe : path (pt f2 (l.getD 0 0) { gi with needs := gi.needs - 1 }) y = m := pm.eq
      rw [pe] at e
      obtain ⟨f, hf⟩ := (F.wf.path y ((oV y o).in F k)).in (rs.headD 0) (by rw [← e]; exact hm)
      rw [freshW _ rmem] at hf; cases hf
    · show W.made + (rs.length : Int) = W.made + ((d - 0 + 1 : Nat) : Int)
      rw [rlen]
    · show (pt f2 (l.getD 0 0) { gi with needs := gi.needs - 1 }).length = _
      rw [len_ks, hk'.trans ckeys, List.length_append, ← len_ks, lw, rlen]
  · simp only [if_neg i0]
    have hi1 : i - 1 ≤ d := by omega
    have qp : q.getD (i - 1) 0 = l.getD (i - 1) 0 := qg (i - 1) hi1
    rw [qp, el3]
    have hp0 := lg (i - 1) hi1
    obtain ⟨fp, hfp, hfb⟩ := p.next hp0 (show l[i - 1 + 1]? = some (l.getD i 0) by rw [show i - 1 + 1 = i by omega]; exact lg i hid)
    obtain ⟨gp, hgp, hgpb, hgps⟩ := oldW _ fp hfp
    have pq : l.getD (i - 1) 0 ≠ l.getD i 0 := nodup_ne p.nodup hp0 (lg i hid) (by omega)
    generalize ep : l.getD (i - 1) 0 = p0 at *
    generalize eqq : l.getD i 0 = qi at *
    have e4 : setBelow (pt f2 qi { gi with needs := gi.needs - 1 }) p0 b = pt (pt f2 qi { gi with needs := gi.needs - 1 }) p0 { gp with below := b } := by
      unfold setBelow; rw [lk_pt_ne pq, hgp]
    rw [e4]
    have np : p0 ∉ rs.reverse ++ l.drop (d + 1) := fun z => by
      rcases List.mem_append.mp z with w | w
      · have := freshW p0 (List.mem_reverse.mp w)
        rw [hfp] at this; cases this
      · obtain ⟨j, hj⟩ := List.getElem?_of_mem w
        rw [List.getElem?_drop] at hj
        exact nodup_ne p.nodup hp0 hj (by omega) rfl
    have g2 := cw.redirect hgp (hgpb.trans hfb) hgi ngi pb np pq
    have hfr : ∀ r f, r ≠ p0 → lk f2 r = some f → ∃ g, lk (pt (pt f2 qi { gi with needs := gi.needs - 1 }) p0 { gp with below := b }) r = some g ∧ g.below = f.below ∧ g.slots = f.slots := fun r f n e => by
      rw [lk_pt_ne n]
      by_cases z : r = qi
      · subst z; rw [hgi] at e; cases e; exact ⟨_, lk_pt_same _ _ _, rfl, rfl⟩
      · exact ⟨f, by rw [lk_pt_ne z]; exact e, rfl, rfl⟩
    have k2 : lk (pt f2 qi { gi with needs := gi.needs - 1 }) p0 = some gp := by rw [lk_pt_ne pq]; exact hgp
    have hk' : ks (pt (pt f2 qi { gi with needs := gi.needs - 1 }) p0 { gp with below := b }) = ks f2 := by
      rw [ks_pt_old (mem_ks.mpr ⟨_, k2⟩)]
      exact ks_pt_old (mem_ks.mpr ⟨_, hgi⟩)
    have hslot : ∀ r f, lk W.frames r = some f → sl (pt (pt f2 qi { gi with needs := gi.needs - 1 }) p0 { gp with below := b }) r = sl W.frames r := fun r f e => by
      obtain ⟨g, h1, _, h3⟩ := oldW r f e
      by_cases z : r = p0
      · subst z
        rw [hgp] at h1; cases h1
        rw [sl_of (lk_pt_same _ _ _), sl_of e]; exact h3
      · obtain ⟨g', k1, _, k3⟩ := hfr r g z h1
        rw [sl_of k1, sl_of e, k3, h3]
    have sameV : ∀ y, Other W h y → path (pt (pt f2 qi { gi with needs := gi.needs - 1 }) p0 { gp with below := b }) y = path W.frames y ∧ vl (pt (pt f2 qi { gi with needs := gi.needs - 1 }) p0 { gp with below := b }) y = vl W.frames y := fun y o => by
      have py := F.wf.path y (o.in F k)
      have ex := excl F k p (i - 1) hp0 (fun j c hj hc => by
        have := slt j (by omega)
        rw [qg j (by omega), List.getD_eq_getElem?_getD, hc] at this
        exact this) y _ py o
      exact vl_congr py fun r hr f e => by
        have n : r ≠ p0 := fun z => ex (by rw [← z]; exact hr)
        obtain ⟨g, h1, h2, h3⟩ := oldW r f e
        obtain ⟨g', k1, k2, k3⟩ := hfr r g n h1
        exact ⟨g', k1, k2.trans h2, k3.trans h3⟩
    have pbV : Path (pt (pt f2 qi { gi with needs := gi.needs - 1 }) p0 { gp with below := b }) b (rs.reverse ++ l.drop (d + 1)) := pb.congr fun r hr f e => by
      obtain ⟨g, h1, h2, _⟩ := hfr r f (fun z => np (by rw [← z]; exact hr)) e
      exact ⟨g, h1, h2⟩
    have lsplit : l = l.take (i - 1) ++ p0 :: l.drop i := by
      have h1 : i - 1 < l.length := by omega
      have h2 := (List.take_append_drop (i - 1) l).symm
      have h3 : l.drop (i - 1) = p0 :: l.drop i := by
        rw [List.drop_eq_getElem_cons h1]
        have : l[i - 1] = p0 := by
          have := hp0
          rw [List.getElem?_eq_getElem h1] at this
          exact Option.some.inj this
        rw [this, show i - 1 + 1 = i by omega]
      rw [h3] at h2; exact h2
    have pV : Path (pt (pt f2 qi { gi with needs := gi.needs - 1 }) p0 { gp with below := b }) (top W h) (l.take (i - 1) ++ p0 :: (rs.reverse ++ l.drop (d + 1))) := by
      refine Path.splice (b := 0) (l2 := l.drop i) (g := { gp with below := b }) (l.take (i - 1)) (by rw [← lsplit]; exact p) (fun r hr f e => ?_) (lk_pt_same _ _ _) pbV
      have n : r ≠ p0 := fun z => by
        obtain ⟨j, hj⟩ := List.getElem?_of_mem hr
        have hj' : j < i - 1 := by
          have := (List.getElem?_eq_some_iff.mp hj).1
          rw [List.length_take] at this; omega
        rw [List.getElem?_take_of_lt hj'] at hj
        exact nodup_ne p.nodup hj hp0 (by omega) z
      obtain ⟨g, h1, h2, _⟩ := oldW r f e
      obtain ⟨g', k1, k2, _⟩ := hfr r g n h1
      exact ⟨g', k1, k2.trans h2⟩
    refine ⟨⟨g2, F.r1, F.r40, fun r hr => ?_, F.ms, F.mr, F.m0, F.h1, F.h6⟩, k, ?_, ?_, ?_, fun y m pm o hm => ?_, rfl, ?_, rfl, ?_, ⟨i, rs.reverse, by omega, by rw [List.length_reverse]; exact rlen, rnd, frR, ?_, by rw [List.reverse_reverse, ← kw, ← ckeys]; exact hk', rfl, ⟨rfl, fun j _ => rfl⟩, fun y o => (sameV y o).1⟩⟩
    · rw [show ks _ = ks f2 from hk', ckeys, kw] at hr
      rcases List.mem_append.mp hr with z | z
      · exact F.rng r z
      · exact crng r z
    · show W.tops.map _ = W.tops.map (vl W.frames)
      have vb : vl (pt (pt f2 qi { gi with needs := gi.needs - 1 }) p0 { gp with below := b }) (top W h) = vl W.frames (top W h) := by
        unfold vl
        rw [pV.eq, el]
        have z1 : ∀ r ∈ rs.reverse ++ l.drop (d + 1), sl (pt (pt f2 qi { gi with needs := gi.needs - 1 }) p0 { gp with below := b }) r = sl f2 r := fun r hr => by
          obtain ⟨f, hf⟩ := pb.in r hr
          obtain ⟨g, h1, _, h3⟩ := hfr r f (fun z => np (by rw [← z]; exact hr)) hf
          rw [sl_of h1, sl_of hf, h3]
        have z2 : (rs.reverse ++ l.drop (d + 1)).map (sl (pt (pt f2 qi { gi with needs := gi.needs - 1 }) p0 { gp with below := b })) = (l.drop i).map (sl W.frames) := by
          rw [List.map_congr_left z1, List.map_append, slq, sld, ← List.map_append, qd]
        rw [List.map_append, List.map_cons, z2, hslot _ _ hfp]
        have z3 : (l.take (i - 1)).map (sl (pt (pt f2 qi { gi with needs := gi.needs - 1 }) p0 { gp with below := b })) = (l.take (i - 1)).map (sl W.frames) := List.map_congr_left fun r hr => by
          obtain ⟨f, hf⟩ := p.in r (List.mem_of_mem_take hr)
          exact hslot r f hf
        rw [z3, ← List.map_cons, ← List.map_append, ← lsplit]
      have := set_map_of (l := W.tops) (f := vl (pt (pt f2 qi { gi with needs := gi.needs - 1 }) p0 { gp with below := b })) (g := vl W.frames) (h := h.toNat) (b := top W h) (fun j x e n => (sameV x (other_top e n)).2) fun x e => by
        rw [top_get k] at e
        rw [← Option.some.inj e]; exact vb
      rw [← this]
      congr 1
      apply List.ext_getElem?
      intro j
      rw [List.getElem?_set]
      by_cases z : h.toNat = j
      · subst z
        have : h.toNat < W.tops.length := by obtain ⟨a, bq⟩ := k; omega
        rw [if_pos rfl, if_pos this]; exact top_get k
      · rw [if_neg z]
    · show W.marks.map _ = W.marks.map _
      refine List.map_congr_left fun x hx => ?_
      rw [(sameV x.2 (other_mark (List.mem_map.mpr ⟨x, hx, rfl⟩))).2]
    · show (path _ (top W h))[d]? = _
      rw [pV.eq, List.getElem?_append_right (by rw [List.length_take]; omega), List.length_take]
      have : d - min (i - 1) l.length = (d - i) + 1 := by omega
      rw [this, List.getElem?_cons_succ, List.getElem?_append_left (by rw [List.length_reverse]; omega)]
      exact rlast
    · have e := (sameV y o).1
      have pe : path (pt (pt f2 qi { gi with needs := gi.needs - 1 }) p0 { gp with below := b }) y = m := pm.eq
      rw [pe] at e
      obtain ⟨f, hf⟩ := (F.wf.path y (Other.in F k o)).in (rs.headD 0) (by rw [← e]; exact hm)
      rw [freshW _ rmem] at hf; cases hf
    · show W.made + (rs.length : Int) = W.made + ((d - i + 1 : Nat) : Int)
      rw [rlen]
    · show (pt (pt f2 qi { gi with needs := gi.needs - 1 }) p0 { gp with below := b }).length = _
      rw [len_ks, hk'.trans ckeys, List.length_append, ← len_ks, lw, rlen]
    · show path _ (top W h) = _
      rw [pV.eq, el]
      have : l.take i = l.take (i - 1) ++ [p0] := by
        have e : i = i - 1 + 1 := by omega
        rw [e, List.take_add_one, hp0, show i - 1 + 1 - 1 = i - 1 by omega]; rfl
      rw [this, List.append_assoc]; rfl
structure PutOk (W : Wd) (h d s v n : Int) (W' : Wd) : Prop where
  hok : hOk W h
  d0 : 0 ≤ d
  dl : d < ((vl W.frames (top W h)).length : Int)
  s0 : 0 ≤ s
  sl : s < ((((vl W.frames (top W h)).getD d.toNat []).length : Nat) : Int)
  wfw : WFW W'
  vals : vals W' = (SW.vals W).set h.toNat ((vl W.frames (top W h)).set d.toNat (((vl W.frames (top W h)).getD d.toNat []).set s.toNat v))
  kept : kept W' = SW.kept W
  many : W'.many = W.many
  rooms : W'.rooms = W.rooms
  made : W'.made = W.made + n
  pth : ∃ (i : Nat) (ns : List Int), (i : Int) + n = d + 1 ∧ (ns.length : Int) = n ∧ ns.Nodup ∧ (∀ r ∈ ns, lk W.frames r = none) ∧ path W'.frames (top W' h) = (path W.frames (top W h)).take i ++ (ns ++ (path W.frames (top W h)).drop (d.toNat + 1)) ∧ ks W'.frames = ks W.frames ++ ns.reverse ∧ W'.marks = W.marks ∧ (W'.tops.length = W.tops.length ∧ ∀ j, j ≠ h.toNat → W'.tops[j]? = W.tops[j]?) ∧ ∀ y, Other W h y → path W'.frames y = path W.frames y
theorem path_setSlot {fs : Fs} {c : Int → Nat} (F : WF fs c) {r : Int} {f : Fr} (e : lk fs r = some f) (s v : Int) (y : Option Int) (hy : ∀ a, y = some a → ∃ g, lk fs a = some g) : path (setSlot fs r s v) y = path fs y ∧ ks (setSlot fs r s v) = ks fs := by
  unfold setSlot
  rw [e]
  refine ⟨?_, ks_pt_old (mem_ks.mpr ⟨_, e⟩)⟩
  have p := F.path y hy
  have q : Path (pt fs r { f with slots := f.slots.set s.toNat v }) y (path fs y) := p.congr fun a _ g hg => by
    by_cases z : a = r
    · subst z; rw [e] at hg; cases hg; exact ⟨_, lk_pt_same _ _ _, rfl⟩
    · exact ⟨g, by rw [lk_pt_ne z]; exact hg, rfl⟩
  exact q.eq
theorem doPut_ok {W W' : Wd} (F : WFW W) {h d s v n : Int} (e : doPut W h d s v = .ok (n, W')) : PutOk W h d s v n W' := by
  unfold doPut doWay at e
  by_cases k : hOk W h
  · rw [if_neg (fun z => z k)] at e
    by_cases kd : 0 ≤ d ∧ d < ((path W.frames (top W h)).length : Int)
    · rw [if_neg (fun z => z kd)] at e
      simp only at e
      generalize el : path W.frames (top W h) = l at e kd
      have p := F.tpath h
      rw [el] at p
      have hd : d.toNat < l.length := by omega
      have ld : l[d.toNat]? = some (l.getD d.toNat 0) := by
        rw [List.getD_eq_getElem?_getD, List.getElem?_eq_getElem hd]; rfl
      have qd : (l.take (d.toNat + 1)).getD d.toNat 0 = l.getD d.toNat 0 := by
        rw [List.getD_eq_getElem?_getD, List.getD_eq_getElem?_getD, List.getElem?_take_of_lt (by omega)]
      rw [qd] at e
      have evl : vl W.frames (top W h) = l.map (SW.sl W.frames) := by unfold vl; rw [el]
      have vd : (vl W.frames (top W h)).getD d.toNat [] = SW.sl W.frames (l.getD d.toNat 0) := by
        rw [evl, List.getD_eq_getElem?_getD, List.getElem?_map, ld]; rfl
      split at e
      · cases e
      rename_i ks
      have ks := Decidable.byContradiction ks
      have dl : d < ((vl W.frames (top W h)).length : Int) := by rw [evl, List.length_map]; exact kd.2
      split at e
      · rename_i hs
        have e' := congrArg Prod.snd (Except.ok.inj e)
        simp only at e'
        subst e'
        have S := setSlot_ok F k (d := d.toNat) (r := l.getD d.toNat 0) s v (by rw [el]; exact ld) fun y m pm o => excl F k p d.toNat ld (fun j b hj hb => by
          have := sh_none hs j (by rw [List.length_take]; omega)
          rw [List.getD_eq_getElem?_getD, List.getElem?_take_of_lt (by omega), hb] at this
          exact this) y m pm o
        obtain ⟨S1, S2, S3⟩ := S
        have en : (0 : Int) = n := congrArg Prod.fst (Except.ok.inj e)
        obtain ⟨fd, hfd⟩ := p.in _ (List.mem_of_getElem? ld)
        have ps := path_setSlot F.wf hfd s v
        refine ⟨k, kd.1, dl, ks.1, by rw [vd]; exact ks.2, S1, by rw [vd]; exact S2, S3, rfl, rfl, by show W.made = _; omega, d.toNat + 1, [], by omega, by rw [← en]; rfl, List.nodup_nil, by simp, ?_, by rw [List.reverse_nil, List.append_nil]; exact (ps none (fun _ z => by cases z)).2, rfl, ⟨rfl, fun _ _ => rfl⟩, fun y o => (ps y (Other.in F k o)).1⟩
        rw [List.nil_append, List.take_append_drop]
        exact (ps (top W h) (F.topIn h)).1
      · rename_i i hs
        split at e
        · cases e
        rename_i kr
        have en : d - (i : Int) + 1 = n := congrArg Prod.fst (Except.ok.inj e)
        have e' := congrArg Prod.snd (Except.ok.inj e)
        simp only at e'
        subst e'
        have iq := (sh_some hs).1
        rw [List.length_take] at iq
        have C := copied_ok F k el hd rfl hs (by omega)
        generalize copied W h (l.take (d.toNat + 1)) i = cc at C
        obtain ⟨r, V⟩ := cc
        obtain ⟨c1, c2, c3, c4, c5, c6, c7, c10, c8, _, c9⟩ := C
        simp only at c1 c2 c3 c4 c5 c6 c7 c8 c9 c10
        obtain ⟨i9, ns, w1, w2, w3, w4, w5, w6, w7, w8, w9⟩ := c9
        obtain ⟨fr9, hr9⟩ := (c1.tpath h).in r (List.mem_of_getElem? c5)
        have ps := path_setSlot c1.wf hr9 s v
        obtain ⟨S1, S2, S3⟩ := setSlot_ok c1 c2 s v c5 c6
        have hv : vl V.frames (top V h) = vl W.frames (top W h) := by
          have a : (vals V)[h.toNat]? = some (vl V.frames (top V h)) := by unfold vals; rw [List.getElem?_map, top_get c2]; rfl
          have b : (vals W)[h.toNat]? = some (vl W.frames (top W h)) := by unfold vals; rw [List.getElem?_map, top_get k]; rfl
          rw [c3, b] at a; exact (Option.some.inj a).symm
        have hsl : SW.sl V.frames r = (vl W.frames (top W h)).getD d.toNat [] := by
          rw [← hv]; unfold vl
          rw [List.getD_eq_getElem?_getD, List.getElem?_map, c5]; rfl
        refine ⟨k, kd.1, dl, ks.1, by rw [vd]; exact ks.2, S1, ?_, S3.trans c4, c7, c8, by show V.made = _; omega, i9, ns, by omega, by omega, w3, w4, (ps (top V h) (c1.topIn h)).1.trans w5, (ps none (fun _ z => by cases z)).2.trans w6, w7, w8, fun y o => (ps y ?_).1.trans (w9 y o)⟩
        rotate_left
        · intro a ea
          subst ea
          have pa := c1.wf.nd
          obtain ⟨g, hg⟩ := Other.in F k o a rfl
          have : a ∈ SW.ks V.frames := by rw [w6]; exact List.mem_append_left _ (mem_ks.mpr ⟨g, hg⟩)
          exact mem_ks.mp this
        rw [S2, hsl, hv, c3]
    · rw [if_pos kd] at e; cases e
  · rw [if_pos k] at e; cases e
end SW
end
section
/-! SwReach: every room is reached from a hand or a place; shared rooms. -/
namespace SW
/-- roots: what the hands and the places hold -/
def roots (W : Wd) : List (Option Int) := W.tops ++ mv W.marks
theorem root_mem {W : Wd} {r : Int} (h : 1 ≤ cW W r) : some r ∈ roots W := by
  unfold cW at h
  by_cases z : 1 ≤ cR W.tops r
  · exact List.mem_append.mpr (.inl (cR_mem z))
  · exact List.mem_append.mpr (.inr (cR_mem (by omega)))
theorem WFW.root {W : Wd} (F : WFW W) {y : Option Int} (h : y ∈ roots W) : ∀ r, y = some r → ∃ f, lk W.frames r = some f :=
  F.ref (List.mem_append.mp h)
/-- each room is on the pile of a hand or of a place -/
theorem WFW.reach {W : Wd} (F : WFW W) : ∀ (n : Nat) {r : Int} {f : Fr} {l : List Int}, lk W.frames r = some f → Path W.frames (some r) l → W.frames.length ≤ l.length + n → ∃ y ∈ roots W, ∃ m1, Path W.frames y (m1 ++ l) := by
  intro n
  induction n with
  | zero =>
    intro r f l hf hl hn
    by_cases c : 1 ≤ cW W r
    · exact ⟨some r, root_mem c, [], hl⟩
    · have e := F.wf.nb r f hf
      have p := F.wf.pos r f hf
      have : 1 ≤ cb W.frames r := by omega
      obtain ⟨k, g, h1, h2⟩ := cb_pos F.wf.nd this
      have hk : Path W.frames (some k) (k :: l) := .cons h1 (by rw [h2]; exact hl)
      have := hk.len
      simp at this; omega
  | succ n ih =>
    intro r f l hf hl hn
    by_cases c : 1 ≤ cW W r
    · exact ⟨some r, root_mem c, [], hl⟩
    · have e := F.wf.nb r f hf
      have p := F.wf.pos r f hf
      have : 1 ≤ cb W.frames r := by omega
      obtain ⟨k, g, h1, h2⟩ := cb_pos F.wf.nd this
      have hk : Path W.frames (some k) (k :: l) := .cons h1 (by rw [h2]; exact hl)
      obtain ⟨y, hy, m, hm⟩ := ih h1 hk (by simp; omega)
      exact ⟨y, hy, m ++ [k], by simpa using hm⟩
theorem WFW.reached {W : Wd} (F : WFW W) {r : Int} {f : Fr} (hf : lk W.frames r = some f) : ∃ y ∈ roots W, r ∈ path W.frames y := by
  obtain ⟨l, hl⟩ := F.wf.fin r f hf
  obtain ⟨y, hy, m, hm⟩ := F.reach W.frames.length hf hl (by omega)
  refine ⟨y, hy, ?_⟩
  rw [hm.eq]
  obtain ⟨g, t, _, _, e⟩ := hl.of_some
  rw [e]; simp
/-- two references: one from elsewhere than below k -/
theorem cb_other {fs : Fs} {r : Int} (nd : (ks fs).Nodup) : ∀ {k : Int} {f : Fr}, lk fs k = some f → f.below = some r → 2 ≤ cb fs r → ∃ j g, j ≠ k ∧ lk fs j = some g ∧ g.below = some r := by
  intro k f hk hb h2
  have e := cb_dr nd hk r
  rw [hb, one_same] at e
  obtain ⟨j, g, h3, h4⟩ := cb_pos (fs := dr fs k) (nd_dr nd) (r := r) (by omega)
  rw [lk_dr] at h3
  split at h3
  · cases h3
  · rename_i n; exact ⟨j, g, n, h3, h4⟩
end SW
end
section
/-! SwPut3: what the copying code leans on at each step. -/
namespace SW
theorem copyL_snoc (rooms : Int) (o : Int) : ∀ (os : List Int) (fs : Fs) (b : Option Int), copyL rooms fs b (os ++ [o]) =
    (pt (copyL rooms fs b os).1 (newRoom rooms (copyL rooms fs b os).1) ⟨(copyL rooms fs b os).2.1, sl (copyL rooms fs b os).1 o, 1⟩, some (newRoom rooms (copyL rooms fs b os).1), (copyL rooms fs b os).2.2 ++ [newRoom rooms (copyL rooms fs b os).1])
  | [], fs, b => rfl
  | a :: os, fs, b => by
    have ih := copyL_snoc rooms o os (pt fs (newRoom rooms fs) ⟨b, sl fs a, 1⟩) (some (newRoom rooms fs))
    show copyL rooms fs b (a :: (os ++ [o])) = _
    simp only [copyL]
    rw [ih]; rfl
structure CopyF (W : Wd) (q : List Int) (i : Nat) (b : Option Int) : Prop where
  eb : below W.frames (q.getD (q.length - 1) 0) = b
  deep : ∃ f, lk W.frames (q.getD (q.length - 1) 0) = some f ∧ f.below = b
  bin : ∀ r, b = some r → ∃ f, lk W.frames r = some f
  cop : ∀ j, Copies W.rooms (cW W) (wantF W.frames b) b ((q.drop i).reverse.take j) (copyL W.rooms (wantF W.frames b) b ((q.drop i).reverse.take j))
  room : ∀ j, j < (q.drop i).reverse.length → ((copyL W.rooms (wantF W.frames b) b ((q.drop i).reverse.take j)).1.length : Int) + 1 ≤ W.rooms
  old : ∀ j o, (q.drop i).reverse[j]? = some o → ∃ f, lk (copyL W.rooms (wantF W.frames b) b ((q.drop i).reverse.take j)).1 o = some f
  sh : ∃ g, lk (copyL W.rooms (wantF W.frames b) b (q.drop i).reverse).1 (q.getD i 0) = some g ∧ 1 < g.needs
  up : i ≠ 0 → ∃ g, lk (leave (copyL W.rooms (wantF W.frames b) b (q.drop i).reverse).1 (some (q.getD i 0))) (q.getD (i - 1) 0) = some g
theorem copyF {W : Wd} (F : WFW W) {h : Int} {d i : Nat} {l q : List Int} (el : path W.frames (top W h) = l) (hd : d < l.length) (eq : l.take (d + 1) = q) (hs : (sh W.frames q).head? = some i) (room : (W.frames.length : Int) + ((d : Int) - i + 1) ≤ W.rooms) : ∃ b, CopyF W q i b := by
  obtain ⟨si, sn, slt⟩ := sh_some hs
  have ql : q.length = d + 1 := by rw [← eq, List.length_take]; omega
  have qg : ∀ j, j ≤ d → q.getD j 0 = l.getD j 0 := fun j hj => by
    rw [List.getD_eq_getElem?_getD, List.getD_eq_getElem?_getD, ← eq, List.getElem?_take_of_lt (by omega)]
  have lg : ∀ j, j ≤ d → l[j]? = some (l.getD j 0) := fun j hj => by
    rw [List.getD_eq_getElem?_getD, List.getElem?_eq_getElem (by omega)]; rfl
  have hid : i ≤ d := by omega
  have p := F.tpath h
  rw [el] at p
  have qin : ∀ o ∈ q, ∃ f, lk W.frames o = some f := fun o ho => p.in o (by rw [← eq] at ho; exact List.mem_of_mem_take ho)
  have ea : q.getD (q.length - 1) 0 = l.getD d 0 := by rw [ql]; exact qg d (Nat.le_refl _)
  obtain ⟨fd, hfd⟩ := p.in (l.getD d 0) (List.mem_of_getElem? (lg d (Nat.le_refl _)))
  rw [← ea] at hfd
  have hbin : ∀ r, fd.below = some r → ∃ f, lk W.frames r = some f := fun r e => F.wf.bin _ fd r hfd e
  have w1 := F.wf.want fd.below hbin
  have kw := ks_want W.frames fd.below
  have lw : (wantF W.frames fd.below).length = W.frames.length := by rw [len_ks, kw, ← len_ks]
  have olen : (q.drop i).reverse.length = d - i + 1 := by rw [List.length_reverse, List.length_drop, ql]; omega
  have oin : ∀ o ∈ (q.drop i).reverse, ∃ f, lk (wantF W.frames fd.below) o = some f := fun o ho => by
    obtain ⟨f, hf⟩ := qin o (List.mem_of_mem_drop (List.mem_reverse.mp ho))
    obtain ⟨g, h1, _⟩ := want_in (x := fd.below) hf
    exact ⟨g, h1⟩
  have cop : ∀ j, Copies W.rooms (cW W) (wantF W.frames fd.below) fd.below ((q.drop i).reverse.take j) (copyL W.rooms (wantF W.frames fd.below) fd.below ((q.drop i).reverse.take j)) := fun j =>
    copyL_ok _ w1 (fun r hr => by rw [kw] at hr; exact F.rng r hr) (fun o ho => oin o (List.mem_of_mem_take ho)) (by rw [lw, List.length_take, olen]; omega)
  have oldW : ∀ j r f, lk W.frames r = some f → ∃ g, lk (copyL W.rooms (wantF W.frames fd.below) fd.below ((q.drop i).reverse.take j)).1 r = some g ∧ f.needs ≤ g.needs := fun j r f e => by
    obtain ⟨g, h1, _⟩ := want_in (x := fd.below) e
    refine ⟨g, (cop j).old r g h1, ?_⟩
    have a := F.wf.nb _ _ e
    have b := w1.nb _ _ h1
    have cbe : cb (wantF W.frames fd.below) r = cb W.frames r := by
      cases z : fd.below with
      | none => rfl
      | some y =>
        obtain ⟨fy, hy⟩ := hbin y z
        simp only [wantF, hy]
        exact cb_pt_same (v := { fy with needs := fy.needs + 1 }) hy rfl _
    rw [cbe] at b
    omega
  have full : (q.drop i).reverse.take (q.drop i).reverse.length = (q.drop i).reverse := List.take_length
  obtain ⟨fi, hfi⟩ := p.in (l.getD i 0) (List.mem_of_getElem? (lg i hid))
  have hsh : ∃ g, lk (copyL W.rooms (wantF W.frames fd.below) fd.below (q.drop i).reverse).1 (q.getD i 0) = some g ∧ 1 < g.needs := by
    obtain ⟨g, h1, h2⟩ := oldW (q.drop i).reverse.length _ fi hfi
    rw [full, ← qg i hid] at h1
    refine ⟨g, h1, ?_⟩
    rw [qg i hid, nd_of hfi] at sn
    omega
  refine ⟨fd.below, below_of hfd, ⟨fd, hfd, rfl⟩, hbin, cop, fun j hj => ?_, fun j o e => ?_, hsh, fun hi => ?_⟩
  · have C := cop j
    have := C.len
    rw [List.length_take] at this
    rw [len_ks, C.keys, List.length_append, ← len_ks, lw, this]
    rw [olen] at hj
    omega
  · obtain ⟨f, hf⟩ := qin o (List.mem_of_mem_drop (List.mem_reverse.mp (List.mem_of_getElem? e)))
    obtain ⟨g, h1, _⟩ := oldW j o f hf
    exact ⟨g, h1⟩
  · obtain ⟨g, h1, h2⟩ := hsh
    rw [leave_more h1 h2]
    obtain ⟨fp, hfp⟩ := p.in (l.getD (i - 1) 0) (List.mem_of_getElem? (lg (i - 1) (by omega)))
    obtain ⟨gp, h3, _⟩ := oldW (q.drop i).reverse.length _ fp hfp
    rw [full] at h3
    have pq : q.getD (i - 1) 0 ≠ q.getD i 0 := by
      rw [qg (i - 1) (by omega), qg i hid]
      exact nodup_ne p.nodup (lg (i - 1) (by omega)) (lg i hid) (by omega)
    refine ⟨gp, ?_⟩
    rw [lk_pt_ne pq, qg (i - 1) (by omega)]; exact h3
end SW
end
section
/-! SwKit: the rules with the written part named, so that a comprehension's reading does not lean on its frame. -/
namespace Sk
open PySem PySem.Spec PyProof.Rows L2
section
variable {X : Cx} {K : PySem.W.Frag} {e o : Expr} {f : Str} {pos : Pos} {ta te : TE}
theorem pe_fldK (K : PySem.W.Frag) (h : X.K = K) (he : PE X e ta) (hb : attributeBase e f X.env (eval e X.env) = eval e X.env) : PE X (.Attribute e f pos) (tFld K ta f) := by
  subst h; exact pe_fld he hb
theorem ix_listK (K : PySem.W.Frag) (h : X.K = K) : IxR X (rIxL K) := by subst h; exact ix_list
theorem ix_tupK (K : PySem.W.Frag) (h : X.K = K) : IxR X (rIxT K) := by subst h; exact ix_tup
def rLenK (K : PySem.W.Frag) : List V → Hp → VK → Prop := fun xs H Q => ∃ p ys, xs = [.ref p] ∧ (SqL K H p ys ∨ SqT K H p ys) ∧ Q (.int ys.length) H
theorem call_lenK (K : PySem.W.Frag) (h : X.K = K) : CallR X (.builtin "len") (rLenK K) := by subst h; exact call_len_seq
def rLenD : List V → Hp → VK → Prop := fun xs H Q => ∃ a kvs, xs = [V.ref a] ∧ H a = some (.dK kvs) ∧ Q (.int kvs.length) H
theorem call_lenDK : CallR X (.builtin "len") rLenD := call_lenD
def rListK (K : PySem.W.Frag) : List V → Hp → VK → Prop := fun xs H Q => ∃ p ys, xs = [.ref p] ∧ (SqL K H p ys ∨ SqT K H p ys) ∧ ∀ l, H l = none → Q (.ref l) (upd H l (.lst ys))
theorem call_listK (K : PySem.W.Frag) (h : X.K = K) : CallR X (.type "list") (rListK K) := by subst h; exact call_list_of
theorem op_in_seqK (K : PySem.W.Frag) (h : X.K = K) : OpR X (compareOp .In) (rIn K false) := by subst h; exact op_in_seq
theorem op_notIn_seqK (K : PySem.W.Frag) (h : X.K = K) : OpR X (compareOp .NotIn) (rIn K true) := by subst h; exact op_notIn_seq
theorem op_eqDK (K : PySem.W.Frag) (h : X.K = K) (hu : X.A.units + 64 < cLine) : OpR X (compareOp .Eq) (rEqD K) := by subst h; exact op_eqD hu
theorem op_neDK (K : PySem.W.Frag) (h : X.K = K) (hu : X.A.units + 64 < cLine) : OpR X (compareOp .NotEq) (rNeD K) := by subst h; exact op_neD hu
theorem sl_listK (K : PySem.W.Frag) (h : X.K = K) : SlR X (rSlL K) := by subst h; exact sl_list
theorem sl_tupK (K : PySem.W.Frag) (h : X.K = K) : SlR X (rSlT K) := by subst h; exact sl_tup
theorem op_catTK (K : PySem.W.Frag) (h : X.K = K) : OpR X (binaryOp .Add) (rCatT K) := by subst h; exact op_catT
theorem call_isiK (K : PySem.W.Frag) (h : X.K = K) : CallR X (.builtin "isinstance") (rIsi K) := by subst h; exact call_isi
variable {es : List Expr} {to : TE} {t : TA} {name : Str} {apos cpos : Pos} {T id : String} {r : V → List V → Hp → VK → Prop} {tg : Expr} {tl : TE}
theorem pi_listK (K : PySem.W.Frag) (h : X.K = K) {l : Expr} (hl : PE X l tl) : PI X tg l (iList K tl) := by subst h; exact pi_list hl
end
theorem yesT {σ : L2.St} {H : Hp} {A B : Prop} {Q : Bool → Hp → Prop} (e : Q true H = if true = true then A else B) (h : A) : tYes σ H Q := by
  show Q true H
  rw [e, if_pos rfl]; exact h
/-- a module's int -/
theorem pe_cst {X : Cx} {x : Str} {i : Int} {pos : Pos} (hm : ∃ t, X.mg x = some (.int i t)) (hg : Gl X x) (hd : (x == ("__debug__" : Str)) = false := by decide) : PE X (.Name x pos) (tC (.int i)) := by
  obtain ⟨t, e⟩ := hm
  exact pe_glob hg e ⟨t, rfl⟩ hd
/-! ### sorted of a dict with int keys, any number of them -/
def rSortD : List V → Hp → VK → Prop := fun xs H Q => ∃ (a : Addr) (kvs : List (Key × V)) (ks : List Int), xs = [.ref a] ∧ Rd H a (.dK kvs) ∧ kvs.map (·.1) = ks.map Sum.inl ∧ ks.length ≤ 10000 ∧
    ∀ (ys : List Int) (p : Addr), ys.Perm ks → ys.Pairwise (· ≤ ·) → H p = none → Q (.ref p) (upd H p (.lst (ys.map V.int)))
theorem call_sortedDA {X : Cx} (hcalm : X.calm = true) : CallR X (.builtin "sorted") rSortD := by
  rintro pins s σ H xs us Q I r ⟨a, kvs, ks, rfl, hd, hks, hz, q⟩
  obtain ⟨u, rfl, rx⟩ := vals1 r
  cases rx
  obtain ⟨z, lo, vs, rel, dd⟩ := dk_rd I.hok hd
  obtain ⟨ep, hat⟩ := dd.dictAt
  have hk : vs.map (·.1) = ks.map Sum.inl := rel.keys.symm.trans hks
  have hl : vs.length = ks.length := by
    simpa using congrArg List.length hk
  have hz' : ks.length ≤ sizeLine := by rw [sizeLine_eq]; omega
  refine Calls.call_function_entry kind_sorted plain_sorted entry_sorted (args_sorted1 _) ?_
  unfold Builtin.«sorted»
  refine wpAny_bind (m := checkCount "sorted" 1 1 _) (wpAny_pure ?_)
  refine wpAny_bind (PySem.W.kdu_collect (A := X.A.in1) (PySem.W.kdl_dict (knd := mixKind X.prog X.w) (kvs := vs) (ep := ep) lo) (I.ok.hd hcalm) hat (by rw [hl]; exact hz') fun h1 tk acc keep hacc => ?_)
  have ha : acc.toList.length = ks.length := by rw [Array.length_toList, hacc.1, hl]
  have hS : IntsAre acc.toList ks := ints_each ha fun j v e => by
    obtain ⟨k, x, e1, e2⟩ := hacc.2 j v (by rw [← Array.getElem?_toList]; exact e)
    have e3 : (vs.map (·.1))[j]? = some k := by simp [e1]
    rw [hk, List.getElem?_map] at e3
    cases e4 : ks[j]? with
    | none => simp [e4] at e3
    | some y =>
      have e5 : Sum.inl y = k := by simpa [e4] using e3
      subst e5
      rcases keyIs_shape (show keyIs (Sum.inl y) v = true from e2) with ⟨i, t, ek, ev⟩ | ⟨z, t, ek, ev⟩
      · cases ek; exact ⟨y, t, rfl, ev⟩
      · cases ek
  have J : Inv X pins σ H { s with heap := h1, toks := tk } := I.kept keep
  refine wpAny_bind (wpAny_newList ?_ (by rw [ha]; exact hz'))
  have ho : (h1.push (seqObj "list" acc.toList.toArray 0)).get? h1.objs.size = some (seqObj "list" acc.toList.toArray 0) := Heap.get?_push_size _ rfl
  show wpAny _ _ _ _ _ { s with heap := h1.push (seqObj "list" acc.toList.toArray 0), toks := tk }
  refine wpAny_bind (wpAny_holding (wpAny_call_entry slot_list_sort ⟨_, ho, rfl⟩ entry_list_sort
    (SrtO.list_sort_ord SrtO.swo_int ho (by rw [ha]; exact hz') (fun h2 => SrtO.ints_sortable hS h2) fun out g1 g2 => ⟨_, rfl, ?_⟩) (args_list_sort _)))
  obtain ⟨k1, k2, k3⟩ := SrtO.ints_out hS g1 g2
  obtain ⟨e', he'⟩ := sortedHeap_at (vs := acc.toList) (out := out.toArray) ho
  have hlen : ((out.map SrtO.iv).map V.int).length ≤ sizeLine := by
    rw [List.length_map, k2.length_eq]; exact hz'
  refine wpAny_pure ⟨_, rfl, .ref h1.objs.size, upd H h1.objs.size (.lst ((out.map SrtO.iv).map V.int)), J.laid (t' := tk) (fun b u e => ?_) (Nat.le_refl _) ⟨hlen, out, e', vals_of_ints k1, he'⟩, rfl, q _ _ k2 k3 (J.hok.fresh (Nat.le_refl _))⟩
  rw [sortedHeap_old (Nat.ne_of_lt (Heap.lt_size e)) (by simp only [Heap.size_push]; exact Nat.lt_succ_of_lt (Heap.lt_size e))]
  exact Heap.get?_push_of_some _ e
end Sk
end
section
/-! SwRep: how a wood stands in the heap; parts of a heap that move alone. -/
namespace Sk
open PySem PySem.Spec PyProof.Rows L2 SW
/-! ### a part A of the heap H is changed, all else stays -/
def Sub (A H : Hp) : Prop := ∀ b o, A b = some o → H b = some o
structure Stp (A H A' H' : Hp) : Prop where
  own : Sub A' H'
  oth : ∀ b o, H b = some o → A b = none → H' b = some o
  new : ∀ b, A b = none → A' b ≠ none → H b = none
theorem Stp.refl {A H : Hp} (h : Sub A H) : Stp A H A H := ⟨h, fun _ _ e _ => e, fun b e n => absurd e n⟩
theorem Stp.trans {A H A1 H1 A2 H2 : Hp} (a : Stp A H A1 H1) (b : Stp A1 H1 A2 H2) : Stp A H A2 H2 where
  own := b.own
  oth := fun c o e n => by
    have e1 := a.oth c o e n
    cases q : A1 c with
    | none => exact b.oth c o e1 q
    | some u =>
      have := a.new c n (by rw [q]; simp)
      rw [e] at this; cases this
  new := fun c n m => by
    cases q : A1 c with
    | none =>
      have := b.new c q m
      cases r : H c with
      | none => rfl
      | some o => rw [a.oth c o r n] at this; cases this
    | some u => exact a.new c n (by rw [q]; simp)
theorem Stp.upd {A H A' H' : Hp} (s : Stp A H A' H') {a : Addr} {u : HO} (h : A' a = some u) (o : HO) : Stp A H (L2.upd A' a o) (L2.upd H' a o) where
  own := fun b v e => by
    by_cases z : b = a
    · subst z; rw [upd_same] at e ⊢; exact e
    · rw [upd_ne z] at e ⊢; exact s.own b v e
  oth := fun b v e n => by
    have z : b ≠ a := fun z => by
      subst z
      have := s.new b n (by rw [h]; simp)
      rw [e] at this; cases this
    rw [upd_ne z]; exact s.oth b v e n
  new := fun b n m => by
    by_cases z : b = a
    · subst z; exact s.new b n (by rw [h]; simp)
    · rw [upd_ne z] at m; exact s.new b n m
theorem Stp.free {A H A' H' : Hp} (s : Stp A H A' H') {a : Addr} (h : H' a = none) : A' a = none := by
  cases q : A' a with
  | none => rfl
  | some u => rw [s.own a u q] at h; cases h
theorem Stp.free0 {A H A' H' : Hp} (s : Stp A H A' H') (hs : Sub A H) {a : Addr} (h : H' a = none) (h2 : A' a = none) : A a = none → H a = none := fun n => by
  cases q : H a with
  | none => rfl
  | some u => rw [s.oth a u q n] at h; cases h
theorem Stp.new' {A H A' H' : Hp} (s : Stp A H A' H') {a : Addr} (h : H' a = none) (o : HO) : Stp A H (L2.upd A' a o) (L2.upd H' a o) where
  own := fun b v e => by
    by_cases z : b = a
    · subst z; rw [upd_same] at e ⊢; exact e
    · rw [upd_ne z] at e ⊢; exact s.own b v e
  oth := fun b v e n => by
    have e1 := s.oth b v e n
    rw [upd_ne (ne_of_none e1 h)]; exact e1
  new := fun b n m => by
    by_cases z : b = a
    · subst z
      cases q : H b with
      | none => rfl
      | some u => rw [s.oth b u q n] at h; cases h
    · rw [upd_ne z] at m; exact s.new b n m
/-- a new object that is nobody's -/
theorem Stp.gar {A H A' H' : Hp} (s : Stp A H A' H') {a : Addr} (h : H' a = none) (o : HO) : Stp A H A' (L2.upd H' a o) where
  own := fun b v e => by
    have e1 := s.own b v e
    rw [upd_ne (ne_of_none e1 h)]; exact e1
  oth := fun b v e n => by
    have e1 := s.oth b v e n
    rw [upd_ne (ne_of_none e1 h)]; exact e1
  new := s.new
/-- an object that isn't the part's is changed, and was new -/
theorem Stp.gars {A H A' H' : Hp} (s : Stp A H A' H') {a : Addr} (h : H a = none) (h2 : A' a = none) (o : HO) : Stp A H A' (L2.upd H' a o) where
  own := fun b v e => by
    have z : b ≠ a := fun z => by subst z; rw [h2] at e; cases e
    rw [upd_ne z]; exact s.own b v e
  oth := fun b v e n => by
    rw [upd_ne (ne_of_none e h)]; exact s.oth b v e n
  new := s.new
theorem Stp.same {A H A' H' H2 : Hp} (s : Stp A H A' H') (k : Same H' H2) : Stp A H A' H2 where
  own := fun b v e => k _ _ (s.own b v e)
  oth := fun b v e n => k _ _ (s.oth b v e n)
  new := s.new
theorem same_new {H : Hp} {a : Addr} (h : H a = none) (o : HO) : Same H (upd H a o) := fun b v e => by
  rw [upd_ne (ne_of_none e h)]; exact e

/-! ### the wood -/
def oV : Option Int → V
  | none => .non
  | some r => .int r
theorem oV_inj {a b : Option Int} (h : oV a = oV b) : a = b := by
  cases a <;> cases b <;> simp_all [oV]
abbrev wK (K : PySem.W.Frag) : Addr := He.ga K "Wood"
abbrev fK (K : PySem.W.Frag) : Addr := He.ga K "Frame"
def wF (W : Wd) (fa ta ma : Addr) : List (Str × V) := [("rooms", .int W.rooms), ("frames", .ref fa), ("tops", .ref ta), ("marks", .ref ma), ("many", .int W.many), ("made", .int W.made)]
def fF (f : Fr) (s : Addr) : List (Str × V) := [("below", oV f.below), ("slots", .ref s), ("needs", .int f.needs)]
def frV (fo : Int → Addr) (fs : Fs) : List (Key × V) := fs.map fun q => (Sum.inl q.1, V.ref (fo q.1))
def mkV (m : List (Int × Option Int)) : List (Key × V) := m.map fun q => (Sum.inl q.1, oV q.2)
/-- where the parts of a wood stand -/
structure Ad where
  p : Addr
  dx : Addr
  fa : Addr
  ta : Addr
  ma : Addr
  fo : Int → Addr
  so : Int → Addr
  fd : Int → Addr
structure WA (K : PySem.W.Frag) (A : Hp) (x : Ad) (W : Wd) : Prop where
  ins : A x.p = some (.ins (wK K) x.dx (wF W x.fa x.ta x.ma))
  frs : A x.fa = some (.dK (frV x.fo W.frames))
  tps : A x.ta = some (.lst (W.tops.map oV))
  mks : A x.ma = some (.dK (mkV W.marks))
  fr : ∀ r f, lk W.frames r = some f → A (x.fo r) = some (.ins (fK K) (x.fd r) (fF f (x.so r)))
  sl : ∀ r f, lk W.frames r = some f → A (x.so r) = some (.lst (f.slots.map V.int))
  fi : ∀ r s f g, lk W.frames r = some f → lk W.frames s = some g → x.fo r = x.fo s → r = s
  si : ∀ r s f g, lk W.frames r = some f → lk W.frames s = some g → x.so r = x.so s → r = s
  st : ∀ r f, lk W.frames r = some f → x.so r ≠ x.ta
  dm : x.fa ≠ x.ma
  pf : ∀ r f, lk W.frames r = some f → x.fo r ≠ x.p

/-! ### dicts -/
theorem valV_fr (fo : Int → Addr) (fs : Fs) (r : Int) : valV (frV fo fs) (Sum.inl r) = (lk fs r).map fun _ => V.ref (fo r) := by
  induction fs with
  | nil => rfl
  | cons p l ih =>
    obtain ⟨j, a⟩ := p
    by_cases e : j = r
    · subst e
      simp [frV, lk, valV]
    · have z : valV (frV fo ((j, a) :: l)) (Sum.inl r) = valV (frV fo l) (Sum.inl r) := valV_neg (p := (Sum.inl j, V.ref (fo j))) (by simpa using e)
      rw [z, ih]; simp [lk, e]
theorem valV_mk (m : List (Int × Option Int)) (r : Int) : valV (mkV m) (Sum.inl r) = (lk m r).map oV := by
  induction m with
  | nil => rfl
  | cons p l ih =>
    obtain ⟨j, a⟩ := p
    by_cases e : j = r
    · subst e
      simp [mkV, lk, valV]
    · have z : valV (mkV ((j, a) :: l)) (Sum.inl r) = valV (mkV l) (Sum.inl r) := valV_neg (p := (Sum.inl j, oV a)) (by simpa using e)
      rw [z, ih]; simp [lk, e]
theorem dropK_fr (fo : Int → Addr) (fs : Fs) (r : Int) : dropK (frV fo fs) (Sum.inl r) = frV fo (dr fs r) := by
  unfold dropK frV dr
  rw [List.filter_map]
  congr 1
  apply List.filter_congr
  intro q _
  simp
theorem dropK_mk (m : List (Int × Option Int)) (r : Int) : dropK (mkV m) (Sum.inl r) = mkV (dr m r) := by
  unfold dropK mkV dr
  rw [List.filter_map]
  congr 1
  apply List.filter_congr
  intro q _
  simp
theorem putK_fr {fo : Int → Addr} {fs : Fs} {r : Int} (x : Addr) (f : Fr) (h : lk fs r = none) : putK (frV fo fs) (Sum.inl r) (.ref x) = frV (fun k => if k = r then x else fo k) (pt fs r f) := by
  rw [putK_new _ (by rw [valV_fr, h]; rfl), pt_new h]
  unfold frV
  rw [List.map_append]
  congr 1
  · refine List.map_congr_left fun q hq => ?_
    have : q.1 ≠ r := fun z => by
      have : q.1 ∈ ks fs := List.mem_map.mpr ⟨q, hq, rfl⟩
      rw [z] at this
      exact not_mem_ks.mpr h this
    simp [this]
  · simp
theorem putK_mk {m : List (Int × Option Int)} {r : Int} (v : Option Int) (h : lk m r = none) : putK (mkV m) (Sum.inl r) (oV v) = mkV (pt m r v) := by
  rw [putK_new _ (by rw [valV_mk, h]; rfl), pt_new h]
  unfold mkV
  rw [List.map_append]; rfl
theorem frV_pt {fo : Int → Addr} {fs : Fs} {r : Int} {f g : Fr} (h : lk fs r = some f) : frV fo (pt fs r g) = frV fo fs := by
  have e := ks_pt_old (v := g) (mem_ks.mpr ⟨f, h⟩)
  have z : ∀ l : Fs, frV fo l = (ks l).map fun k => (Sum.inl k, V.ref (fo k)) := fun l => by unfold frV ks; rw [List.map_map]; rfl
  rw [z, z, e]
theorem frV_len (fo : Int → Addr) (fs : Fs) : (frV fo fs).length = fs.length := by unfold frV; rw [List.length_map]
theorem mkV_len (m : List (Int × Option Int)) : (mkV m).length = m.length := by unfold mkV; rw [List.length_map]

/-! ### moves -/
section
variable {K : PySem.W.Frag} {A : Hp} {x : Ad} {W : Wd}
/-- a frame's fields -/
theorem WA.setFr (R : WA K A x W) {r : Int} {f : Fr} (h : lk W.frames r = some f) (b : Option Int) (n : Int) : WA K (upd A (x.fo r) (.ins (fK K) (x.fd r) (fF { f with below := b, needs := n } (x.so r)))) x { W with frames := pt W.frames r { f with below := b, needs := n } } := by
  have e := R.fr r f h
  have look : ∀ k g, lk (pt W.frames r { f with below := b, needs := n }) k = some g → ∃ f', lk W.frames k = some f' ∧ g.slots = f'.slots := fun k g hk => by
    by_cases z : k = r
    · subst z; rw [lk_pt_same] at hk; cases hk; exact ⟨f, h, rfl⟩
    · rw [lk_pt_ne z] at hk; exact ⟨g, hk, rfl⟩
  refine ⟨?_, ?_, ?_, ?_, fun k g hk => ?_, fun k g hk => ?_, fun k s g g' hk hs => ?_, fun k s g g' hk hs => ?_, fun k g hk => ?_, R.dm, fun k g hk => ?_⟩
  · rw [upd_ne (fun z => R.pf r f h z.symm)]; exact R.ins
  · rw [upd_ne (ne_of R.frs e (by intro z; cases z))]
    show A x.fa = some (.dK (frV x.fo (pt W.frames r { f with below := b, needs := n })))
    rw [frV_pt h]; exact R.frs
  · rw [upd_ne (ne_of R.tps e (by intro z; cases z))]; exact R.tps
  · rw [upd_ne (ne_of R.mks e (by intro z; cases z))]; exact R.mks
  · by_cases z : k = r
    · subst z
      have hk' : lk (pt W.frames k { f with below := b, needs := n }) k = some g := hk
      rw [lk_pt_same] at hk'; cases hk'
      rw [upd_same]
    · have hk' : lk (pt W.frames r { f with below := b, needs := n }) k = some g := hk
      rw [lk_pt_ne z] at hk'
      rw [upd_ne (fun w => z (R.fi _ _ _ _ hk' h w))]
      exact R.fr k g hk'
  · obtain ⟨f', h1, h2⟩ := look k g hk
    have := R.sl k f' h1
    rw [upd_ne (ne_of this e (by intro z; cases z)), h2]; exact this
  · obtain ⟨f1, h1, _⟩ := look k g hk
    obtain ⟨f2, h2, _⟩ := look s g' hs
    exact R.fi k s f1 f2 h1 h2
  · obtain ⟨f1, h1, _⟩ := look k g hk
    obtain ⟨f2, h2, _⟩ := look s g' hs
    exact R.si k s f1 f2 h1 h2
  · obtain ⟨f1, h1, _⟩ := look k g hk
    exact R.st k f1 h1
  · obtain ⟨f1, h1, _⟩ := look k g hk
    exact R.pf k f1 h1
/-- a call's values -/
theorem WA.setSl (R : WA K A x W) {r : Int} {f : Fr} (h : lk W.frames r = some f) (zs : List Int) : WA K (upd A (x.so r) (.lst (zs.map V.int))) x { W with frames := pt W.frames r { f with slots := zs } } := by
  have e := R.sl r f h
  have look : ∀ k g, lk (pt W.frames r { f with slots := zs }) k = some g → ∃ f', lk W.frames k = some f' ∧ g.below = f'.below ∧ g.needs = f'.needs := fun k g hk => by
    by_cases z : k = r
    · subst z; rw [lk_pt_same] at hk; cases hk; exact ⟨f, h, rfl, rfl⟩
    · rw [lk_pt_ne z] at hk; exact ⟨g, hk, rfl, rfl⟩
  refine ⟨?_, ?_, ?_, ?_, fun k g hk => ?_, fun k g hk => ?_, fun k s g g' hk hs => ?_, fun k s g g' hk hs => ?_, fun k g hk => ?_, R.dm, fun k g hk => ?_⟩
  · rw [upd_ne (ne_of R.ins e (by intro z; cases z))]; exact R.ins
  · rw [upd_ne (ne_of R.frs e (by intro z; cases z))]
    show A x.fa = some (.dK (frV x.fo (pt W.frames r { f with slots := zs })))
    rw [frV_pt h]; exact R.frs
  · rw [upd_ne (fun z => R.st r f h z.symm)]; exact R.tps
  · rw [upd_ne (ne_of R.mks e (by intro z; cases z))]; exact R.mks
  · obtain ⟨f', h1, h2, h3⟩ := look k g hk
    have := R.fr k f' h1
    rw [upd_ne (ne_of this e (by intro z; cases z))]
    have ee : fF g (x.so k) = fF f' (x.so k) := by unfold fF; rw [h2, h3]
    rw [ee]; exact this
  · have hk' : lk (pt W.frames r { f with slots := zs }) k = some g := hk
    by_cases z : k = r
    · subst z
      rw [lk_pt_same] at hk'; cases hk'
      rw [upd_same]
    · rw [lk_pt_ne z] at hk'
      rw [upd_ne (fun w => z (R.si _ _ _ _ hk' h w))]
      exact R.sl k g hk'
  · obtain ⟨f1, h1, _⟩ := look k g hk
    obtain ⟨f2, h2, _⟩ := look s g' hs
    exact R.fi k s f1 f2 h1 h2
  · obtain ⟨f1, h1, _⟩ := look k g hk
    obtain ⟨f2, h2, _⟩ := look s g' hs
    exact R.si k s f1 f2 h1 h2
  · obtain ⟨f1, h1, _⟩ := look k g hk
    exact R.st k f1 h1
  · obtain ⟨f1, h1, _⟩ := look k g hk
    exact R.pf k f1 h1
/-- a room is given back -/
theorem WA.pop (R : WA K A x W) (r : Int) : WA K (upd A x.fa (.dK (frV x.fo (dr W.frames r)))) x { W with frames := dr W.frames r } := by
  have look : ∀ k g, lk (dr W.frames r) k = some g → lk W.frames k = some g := fun k g hk => by
    rw [lk_dr] at hk
    split at hk
    · cases hk
    · exact hk
  refine ⟨?_, upd_same, ?_, ?_, fun k g hk => ?_, fun k g hk => ?_, fun k s g g' hk hs => R.fi k s g g' (look k g hk) (look s g' hs), fun k s g g' hk hs => R.si k s g g' (look k g hk) (look s g' hs), fun k g hk => R.st k g (look k g hk), R.dm, fun k g hk => R.pf k g (look k g hk)⟩
  · rw [upd_ne (ne_of R.ins R.frs (by intro z; cases z))]; exact R.ins
  · rw [upd_ne (ne_of R.tps R.frs (by intro z; cases z))]; exact R.tps
  · rw [upd_ne (fun z => R.dm z.symm)]; exact R.mks
  · have := R.fr k g (look k g hk)
    rw [upd_ne (ne_of this R.frs (by intro z; cases z))]; exact this
  · have := R.sl k g (look k g hk)
    rw [upd_ne (ne_of this R.frs (by intro z; cases z))]; exact this
/-- the hands' last calls -/
theorem WA.setTops (R : WA K A x W) (ts : List (Option Int)) : WA K (upd A x.ta (.lst (ts.map oV))) x { W with tops := ts } := by
  refine ⟨?_, ?_, upd_same, ?_, fun k g hk => ?_, fun k g hk => ?_, R.fi, R.si, R.st, R.dm, R.pf⟩
  · rw [upd_ne (ne_of R.ins R.tps (by intro z; cases z))]; exact R.ins
  · rw [upd_ne (ne_of R.frs R.tps (by intro z; cases z))]; exact R.frs
  · rw [upd_ne (ne_of R.mks R.tps (by intro z; cases z))]; exact R.mks
  · have := R.fr k g hk
    rw [upd_ne (ne_of this R.tps (by intro z; cases z))]; exact this
  · rw [upd_ne (R.st k g hk)]; exact R.sl k g hk
/-- the kept places -/
theorem WA.setMarks (R : WA K A x W) (ms : List (Int × Option Int)) : WA K (upd A x.ma (.dK (mkV ms))) x { W with marks := ms } := by
  refine ⟨?_, ?_, ?_, upd_same, fun k g hk => ?_, fun k g hk => ?_, R.fi, R.si, R.st, R.dm, R.pf⟩
  · rw [upd_ne (ne_of R.ins R.mks (by intro z; cases z))]; exact R.ins
  · rw [upd_ne R.dm]; exact R.frs
  · rw [upd_ne (ne_of R.tps R.mks (by intro z; cases z))]; exact R.tps
  · have := R.fr k g hk
    rw [upd_ne (ne_of this R.mks (by intro z; cases z))]; exact this
  · have := R.sl k g hk
    rw [upd_ne (ne_of this R.mks (by intro z; cases z))]; exact this
/-- the wood's own numbers -/
theorem WA.setNums (R : WA K A x W) (many made : Int) : WA K (upd A x.p (.ins (wK K) x.dx (wF { W with many := many, made := made } x.fa x.ta x.ma))) x { W with many := many, made := made } := by
  refine ⟨upd_same, ?_, ?_, ?_, fun k g hk => ?_, fun k g hk => ?_, R.fi, R.si, R.st, R.dm, R.pf⟩
  · rw [upd_ne (ne_of R.frs R.ins (by intro z; cases z))]; exact R.frs
  · rw [upd_ne (ne_of R.tps R.ins (by intro z; cases z))]; exact R.tps
  · rw [upd_ne (ne_of R.mks R.ins (by intro z; cases z))]; exact R.mks
  · rw [upd_ne (R.pf k g hk)]; exact R.fr k g hk
  · have := R.sl k g hk
    rw [upd_ne (ne_of this R.ins (by intro z; cases z))]; exact this
/-- a new frame at the new address y, its list at s -/
theorem WA.newFr (R : WA K A x W) {r : Int} (h : lk W.frames r = none) {y s d : Addr} (ny : A y = none) (ns : A s = none) (sy : s ≠ y) (f : Fr) :
    WA K (upd (upd (upd A s (.lst (f.slots.map V.int))) y (.ins (fK K) d (fF f s))) x.fa (.dK (frV (fun k => if k = r then y else x.fo k) (pt W.frames r f))))
      { x with fo := fun k => if k = r then y else x.fo k, so := fun k => if k = r then s else x.so k, fd := fun k => if k = r then d else x.fd k } { W with frames := pt W.frames r f } := by
  have nyf := ne_of_none R.frs ny
  have nsf := ne_of_none R.frs ns
  have look : ∀ k g, k ≠ r → lk (pt W.frames r f) k = some g → lk W.frames k = some g := fun k g z hk => by
    rw [lk_pt_ne z] at hk; exact hk
  have old : ∀ {b : Addr} {o : HO}, A b = some o → b ≠ x.fa → upd (upd (upd A s (.lst (f.slots.map V.int))) y (.ins (fK K) d (fF f s))) x.fa (.dK (frV (fun k => if k = r then y else x.fo k) (pt W.frames r f))) b = some o := fun {b o} e n => by
    rw [upd_ne n, upd_ne (ne_of_none e ny), upd_ne (ne_of_none e ns)]; exact e
  refine ⟨?_, upd_same, ?_, ?_, fun k g hk => ?_, fun k g hk => ?_, fun k l g g' hk hl e => ?_, fun k l g g' hk hl e => ?_, fun k g hk => ?_, R.dm, fun k g hk => ?_⟩
  · exact old R.ins (ne_of R.ins R.frs (by intro z; cases z))
  · exact old R.tps (ne_of R.tps R.frs (by intro z; cases z))
  · exact old R.mks (fun z => R.dm z.symm)
  · by_cases z : k = r
    · subst z
      have hk' : lk (pt W.frames k f) k = some g := hk
      rw [lk_pt_same] at hk'; cases hk'
      simp only [if_true]
      rw [upd_ne nyf.symm, upd_same]
    · have hk' := look k g z hk
      simp only [if_neg z]
      exact old (R.fr k g hk') (ne_of (R.fr k g hk') R.frs (by intro z; cases z))
  · by_cases z : k = r
    · subst z
      have hk' : lk (pt W.frames k f) k = some g := hk
      rw [lk_pt_same] at hk'; cases hk'
      simp only [if_true]
      rw [upd_ne nsf.symm, upd_ne sy, upd_same]
    · have hk' := look k g z hk
      simp only [if_neg z]
      exact old (R.sl k g hk') (ne_of (R.sl k g hk') R.frs (by intro z; cases z))
  · by_cases z : k = r
    · by_cases z2 : l = r
      · rw [z, z2]
      · have h2 := look l g' z2 hl
        simp only [if_pos z, if_neg z2] at e
        have := R.fr l g' h2
        rw [← e, ny] at this; cases this
    · have h1 := look k g z hk
      by_cases z2 : l = r
      · simp only [if_pos z2, if_neg z] at e
        have := R.fr k g h1
        rw [e, ny] at this; cases this
      · have h2 := look l g' z2 hl
        simp only [if_neg z, if_neg z2] at e
        exact R.fi k l g g' h1 h2 e
  · by_cases z : k = r
    · by_cases z2 : l = r
      · rw [z, z2]
      · have h2 := look l g' z2 hl
        simp only [if_pos z, if_neg z2] at e
        have := R.sl l g' h2
        rw [← e, ns] at this; cases this
    · have h1 := look k g z hk
      by_cases z2 : l = r
      · simp only [if_pos z2, if_neg z] at e
        have := R.sl k g h1
        rw [e, ns] at this; cases this
      · have h2 := look l g' z2 hl
        simp only [if_neg z, if_neg z2] at e
        exact R.si k l g g' h1 h2 e
  · by_cases z : k = r
    · simp only [if_pos z]
      exact fun w => ne_of_none R.tps ns w.symm
    · simp only [if_neg z]
      exact R.st k g (look k g z hk)
  · by_cases z : k = r
    · simp only [if_pos z]
      exact fun w => ne_of_none R.ins ny w.symm
    · simp only [if_neg z]
      exact R.pf k g (look k g z hk)
end
end Sk
end
section
/-! SwM1: the small methods of a wood keep their promises. -/
namespace Sk
open PySem PySem.Spec PyProof.Rows L2 SW
abbrev aW (K : PySem.W.Frag) (m : Str) : Addr := He.fAd K ("Wood", some m)
abbrev aF (K : PySem.W.Frag) (m : Str) : Addr := He.fAd K ("Frame", some m)
abbrev eC (K : PySem.W.Frag) (x : Str) : Value := .ref (He.ga K x)
/-! ### lookups -/
theorem lt1000 {n : Nat} (h : n ≤ 100) : n < 1000 := by omega
theorem sz {n : Nat} (h : n ≤ 100000) : n ≤ sizeLine := by rw [sizeLine_eq]; omega
theorem szl {n : Nat} (h : n ≤ 100000) : n < sizeLine := by rw [sizeLine_eq]; omega
section
variable {W : Wd} {fa ta ma s : Addr} {f : Fr}
theorem wf_rooms : (wF W fa ta ma).lookup ("rooms" : Str) = some (V.int W.rooms) := rfl
theorem wf_frames : (wF W fa ta ma).lookup ("frames" : Str) = some (V.ref fa) := rfl
theorem wf_tops : (wF W fa ta ma).lookup ("tops" : Str) = some (V.ref ta) := rfl
theorem wf_marks : (wF W fa ta ma).lookup ("marks" : Str) = some (V.ref ma) := rfl
theorem wf_many : (wF W fa ta ma).lookup ("many" : Str) = some (V.int W.many) := rfl
theorem wf_made : (wF W fa ta ma).lookup ("made" : Str) = some (V.int W.made) := rfl
theorem ff_below : (fF f s).lookup ("below" : Str) = some (oV f.below) := rfl
theorem ff_slots : (fF f s).lookup ("slots" : Str) = some (V.ref s) := rfl
theorem ff_needs : (fF f s).lookup ("needs" : Str) = some (V.int f.needs) := rfl
end
theorem upd_back {H : Hp} {y l : Addr} {a b L : HO} (n : y ≠ l) : upd (upd (upd H y a) l L) y b = upd (upd H l L) y b := by
  funext c
  by_cases h : c = y
  · subst h; rw [upd_same, upd_same]
  · rw [upd_ne h, upd_ne h]
    by_cases h2 : c = l
    · subst h2; rw [upd_same, upd_same]
    · rw [upd_ne h2, upd_ne h2, upd_ne h]
theorem take_snoc {l : List Int} {i : Nat} {a : Int} (h : l[i]? = some a) : l.take (i + 1) = l.take i ++ [a] := by
  rw [List.take_add_one, h]; rfl
/-! ### the promises -/
section
variable (K : PySem.W.Frag)
def spNeedHand : Sp := fun vs H Q E => ∃ (A : Hp) (x : Ad) (W : Wd) (h : Int), vs = [.ref x.p, .int h] ∧ Sub A H ∧ WA K A x W ∧ (hOk W h → Q .non H) ∧ (¬ hOk W h → E (eC K "NoHand") none H)
def spNeedPlace : Sp := fun vs H Q E => ∃ (A : Hp) (x : Ad) (W : Wd) (p : Int), vs = [.ref x.p, .int p] ∧ Sub A H ∧ WA K A x W ∧ (∀ y, lk W.marks p = some y → Q .non H) ∧ (lk W.marks p = none → E (eC K "NoPlace") none H)
def spNeedFree : Sp := fun vs H Q E => ∃ (A : Hp) (x : Ad) (W : Wd) (n : Int), vs = [.ref x.p, .int n] ∧ Sub A H ∧ WA K A x W ∧ ((W.frames.length : Int) + n ≤ W.rooms → Q .non H) ∧ (W.rooms < (W.frames.length : Int) + n → E (eC K "NoRoom") none H)
def spHands : Sp := fun vs H Q _ => ∃ (A : Hp) (x : Ad) (W : Wd), vs = [.ref x.p] ∧ Sub A H ∧ WA K A x W ∧ Q (.int W.tops.length) H
def spCopies : Sp := fun vs H Q _ => ∃ (A : Hp) (x : Ad) (W : Wd), vs = [.ref x.p] ∧ Sub A H ∧ WA K A x W ∧ Q (.int W.made) H
def spPath : Sp := fun vs H Q _ => ∃ (A : Hp) (x : Ad) (W : Wd) (r : Option Int) (l : List Int), vs = [.ref x.p, oV r] ∧ Sub A H ∧ WA K A x W ∧ Path W.frames r l ∧ l.length ≤ 1000 ∧ ∀ p, H p = none → Q (.ref p) (upd H p (.lst (l.map V.int)))
def spNewRoom : Sp := fun vs H Q _ => ∃ (A : Hp) (x : Ad) (W : Wd), vs = [.ref x.p] ∧ Sub A H ∧ WA K A x W ∧ W.rooms ≤ 40 ∧ newRoom W.rooms W.frames ∈ freeR W.rooms W.frames ∧ ∀ H', Same H H' → Q (.int (newRoom W.rooms W.frames)) H'
def spWant : Sp := fun vs H Q _ => ∃ (A : Hp) (x : Ad) (W : Wd) (r : Option Int), vs = [.ref x.p, oV r] ∧ Sub A H ∧ WA K A x W ∧ (∀ k, r = some k → ∃ f, lk W.frames k = some f) ∧ ∀ A' H', WA K A' x { W with frames := wantF W.frames r } → Stp A H A' H' → Q .non H'
def spLeave : Sp := fun vs H Q _ => ∃ (A : Hp) (x : Ad) (W : Wd) (r : Option Int) (gs : Fs), vs = [.ref x.p, oV r] ∧ Sub A H ∧ WA K A x W ∧ Leave W.frames r gs ∧ (ks W.frames).Nodup ∧ ∀ A' H', WA K A' x { W with frames := gs } → Stp A H A' H' → Q .non H'
def spFrame : Sp := fun vs H Q _ => ∃ (y dx s : Addr) (b : Option Int) (zs : List Int), vs = [.ref y, oV b, .ref s] ∧ H y = some (.ins (fK K) dx []) ∧ SqL K H s (zs.map V.int) ∧ ∀ l, H l = none → Q .non (upd (upd H l (.lst (zs.map V.int))) y (.ins (fK K) dx (fF ⟨b, zs, 1⟩ l)))
end
section
variable {P : Program} {w : World} {K : PySem.W.Frag} {mg : Str → Option Value} {base : Heap}
theorem ok_Wood_need_hand (T : Txt K mg) : FnOk P w K mg base (L2.CX P w) 1 (aW K "need_hand") (fdOf K (aW K "need_hand")) ["self", "hand"] (spNeedHand K) := by
  refine T.F_Wood_need_hand.ok (CX := L2.CX P w) sc_Wood_need_hand (fun vs H Q E h => ?_) (fun cdv A outer s H vs Q E hr h => ?_)
  · obtain ⟨_, _, _, _, rfl, _⟩ := h; rfl
  · obtain ⟨A, x, W, h, rfl, s0, R, hy, hn⟩ := h
    refine ⟨_, (pss_one (ps_if (pt_not (pt_chain op_le op_lt pe_int (pv 1) (pe_callB (call_lenK K rfl) rfl T.n_len PySem.boot_len (pa_cons (pe_fldK K rfl (pv 0) rfl) pa_nil)))) (pss_one (ps_raise rfl (takes_of rfl rfl rfl rfl) (pmk_own PySem.F.excBase_ValueError T.x_NoHand.1 T.g_NoHand T.x_NoHand.2.1 (raises_own T.x_NoHand.2.2.1 T.x_NoHand.2.2.2) rfl))) pss_nil)), ?_⟩
    have hp := s0 _ _ R.ins
    refine ⟨_, rfl, _, _, rfl, rfl, _, rfl, ?_⟩
    by_cases h0 : 0 ≤ h
    · rw [decide_eq_true h0]
      refine iteT ⟨_, rfl, x.p, _, _, _, _, rfl, hp, T.cl_Wood, T.a_tops, wf_tops, x.ta, _, rfl, .inl (SqL.of (s0 _ _ R.tps)), _, _, rfl, rfl, _, rfl, ?_⟩
      rw [List.length_map]
      by_cases h1 : h < (W.tops.length : Int)
      · rw [decide_eq_true h1]; exact iteF (hy ⟨h0, h1⟩)
      · rw [decide_eq_false h1]; exact iteT (hn fun z => h1 z.2)
    · rw [decide_eq_false h0]
      exact iteF ⟨_, rfl, iteT (hn fun z => h0 z.1)⟩
theorem ok_Wood_need_free (T : Txt K mg) : FnOk P w K mg base (L2.CX P w) 1 (aW K "need_free") (fdOf K (aW K "need_free")) ["self", "many"] (spNeedFree K) := by
  refine T.F_Wood_need_free.ok (CX := L2.CX P w) sc_Wood_need_free (fun vs H Q E h => ?_) (fun cdv A outer s H vs Q E hr h => ?_)
  · obtain ⟨_, _, _, _, rfl, _⟩ := h; rfl
  · obtain ⟨A, x, W, n, rfl, s0, R, hy, hn⟩ := h
    refine ⟨_, (pss_one (ps_if (pt_cmpR op_gt (pe_op op_add (pe_callB call_lenDK rfl T.n_len PySem.boot_len (pa_cons (pe_fldK K rfl (pv 0) rfl) pa_nil)) (pv 1)) (pe_fldK K rfl (pv 0) rfl) (nomark _)) (pss_one (ps_raise rfl (takes_of rfl rfl rfl rfl) (pmk_own PySem.F.excBase_ValueError T.x_NoRoom.1 T.g_NoRoom T.x_NoRoom.2.1 (raises_own T.x_NoRoom.2.2.1 T.x_NoRoom.2.2.2) rfl))) pss_nil)), ?_⟩
    have hp := s0 _ _ R.ins
    refine ⟨_, rfl, x.p, _, _, _, _, rfl, hp, T.cl_Wood, T.a_frames, wf_frames, x.fa, _, rfl, s0 _ _ R.frs, _, rfl, _, _, rfl, rfl, _, rfl, x.p, _, _, _, _, rfl, hp, T.cl_Wood, T.a_rooms, wf_rooms, _, _, rfl, rfl, _, rfl, ?_⟩
    rw [frV_len]
    by_cases h1 : W.rooms < (W.frames.length : Int) + n
    · rw [decide_eq_true h1]; exact iteT (hn h1)
    · rw [decide_eq_false h1]; exact iteF (hy (by omega))
theorem ok_Wood_hands (T : Txt K mg) : FnOk P w K mg base CX0 1 (aW K "hands") (fdOf K (aW K "hands")) ["self"] (spHands K) := by
  refine T.F_Wood_hands.ok sc_Wood_hands (fun vs H Q E h => ?_) (fun cdv A outer s H vs Q E hr h => ?_)
  · obtain ⟨_, _, _, rfl, _⟩ := h; rfl
  · obtain ⟨A, x, W, rfl, s0, R, k⟩ := h
    refine ⟨_, PSs.nox (pss_one (ps_ret (pe_callB (call_lenK K rfl) rfl T.n_len PySem.boot_len (pa_cons (pe_fldK K rfl (pv 0) rfl) pa_nil)))), ?_⟩
    have hp := s0 _ _ R.ins
    refine ⟨_, rfl, x.p, _, _, _, _, rfl, hp, T.cl_Wood, T.a_tops, wf_tops, x.ta, _, rfl, .inl (SqL.of (s0 _ _ R.tps)), ?_⟩
    rw [List.length_map]; exact k
theorem ok_Wood_copies (T : Txt K mg) : FnOk P w K mg base CX0 1 (aW K "copies") (fdOf K (aW K "copies")) ["self"] (spCopies K) := by
  refine T.F_Wood_copies.ok sc_Wood_copies (fun vs H Q E h => ?_) (fun cdv A outer s H vs Q E hr h => ?_)
  · obtain ⟨_, _, _, rfl, _⟩ := h; rfl
  · obtain ⟨A, x, W, rfl, s0, R, k⟩ := h
    refine ⟨_, PSs.nox (pss_one (ps_ret (pe_fldK K rfl (pv 0) rfl))), ?_⟩
    exact ⟨_, rfl, x.p, _, _, _, _, rfl, s0 _ _ R.ins, T.cl_Wood, T.a_made, wf_made, k⟩
theorem ok_Wood_path (T : Txt K mg) : FnOk P w K mg base CX0 1 (aW K "path") (fdOf K (aW K "path")) ["self", "room"] (spPath K) := by
  refine T.F_Wood_path.ok sc_Wood_path (fun vs H Q E h => ?_) (fun cdv A outer s H vs Q E hr h => ?_)
  · obtain ⟨_, _, _, _, _, rfl, _⟩ := h; rfl
  · obtain ⟨A, x, W, r, l, rfl, s0, R, hpath, hl, k⟩ := h
    refine ⟨_, PSs.nox (pss_cons (ps_set (i := 2) sc_Wood_path.nd rfl (Or.inl rfl) (pe_lst pa_nil)) (pss_cons (ps_while PassesOwn.never (pt_cmpR op_notN1 (pv 1) pe_non (nomark _)) (pss_cons (ps_expr (pe_bm PySem.F.plainAttrs_list PySem.F.slot_list_append PySem.F.type_list_append mt_append (pv 2) (pa_cons (pv 1) pa_nil))) (pss_one (ps_set (i := 1) sc_Wood_path.nd rfl (Or.inl rfl) (pe_fldK K rfl (pe_dget (hu_of hr) (pe_fldK K rfl (pv 0) rfl) (pv 1) (fun _ _ => rfl)) rfl))))) (pss_one (ps_ret (pv 2))))), ?_⟩
    refine ⟨Nat.zero_le _, fun p np => ?_⟩
    have npA : ∀ {b : Addr} {o : HO}, A b = some o → b ≠ p := fun e => ne_of_none (s0 _ _ e) np
    refine ⟨fun m σ H' => ∃ (pre : List Int) (y : Option Int) (post : List Int), σ = [some (.ref x.p), some (oV y), some (.ref p)] ∧ H' = upd H p (.lst (pre.map V.int)) ∧ Path W.frames y post ∧ l = pre ++ post ∧ m = post.length, ⟨l.length, [], r, l, rfl, rfl, hpath, rfl, rfl⟩, ?_⟩
    rintro m σ H' ⟨pre, y, post, rfl, rfl, hy, el, rfl⟩
    refine ⟨_, rfl, rfl, _, rfl, ?_⟩
    cases hy with
    | nil =>
      refine iteF ⟨_, rfl, ?_⟩
      rw [List.append_nil] at el
      subst el
      exact k p np
    | @cons q f post e hy =>
      refine iteT ⟨fun σ' H' => ∃ (pre' : List Int) (y : Option Int) (post' : List Int), σ' = [some (.ref x.p), some (oV y), some (.ref p)] ∧ H' = upd H p (.lst (pre'.map V.int)) ∧ Path W.frames y post' ∧ l = pre' ++ post' ∧ post'.length = post.length, fun σ' H' ⟨pre', y, post', a1, a2, a3, a4, a5⟩ => ⟨post'.length, by rw [a5]; simp, pre', y, post', a1, a2, a3, a4, rfl⟩, ?_⟩
      refine ⟨_, rfl, .inl ⟨rfl, _, SqL.of upd_same⟩, _, rfl, p, _, _, rfl, rfl, upd_same, szl (by rw [List.length_map]; rw [el] at hl; rw [List.length_append] at hl; omega), ?_⟩
      rw [upd_upd]
      have hp : upd H p (.lst (pre.map V.int ++ [V.int q])) x.p = some _ := (upd_ne (npA R.ins)).trans (s0 _ _ R.ins)
      have hfa : upd H p (.lst (pre.map V.int ++ [V.int q])) x.fa = some _ := (upd_ne (npA R.frs)).trans (s0 _ _ R.frs)
      have hfr : upd H p (.lst (pre.map V.int ++ [V.int q])) (x.fo q) = some _ := (upd_ne (npA (R.fr _ _ e))).trans (s0 _ _ (R.fr _ _ e))
      refine ⟨_, rfl, x.p, _, _, _, _, rfl, hp, T.cl_Wood, T.a_frames, wf_frames, _, rfl, x.fa, V.ref (x.fo q), rfl, ?_, x.fo q, _, _, _, _, rfl, hfr, T.cl_Frame, T.a_below, ff_below, ?_⟩
      · have := DGet.k (k := Sum.inl q) hfa
        rw [valV_fr, e] at this; exact this
      · exact ⟨pre ++ [q], f.below, post, rfl, by rw [List.map_append]; rfl, hy, by rw [el]; simp, rfl⟩
theorem ok_Wood_new_room (T : Txt K mg) : FnOk P w K mg base CX0 1 (aW K "new_room") (fdOf K (aW K "new_room")) ["self"] (spNewRoom K) := by
  refine T.F_Wood_new_room.ok sc_Wood_new_room (fun vs H Q E h => ?_) (fun cdv A outer s H vs Q E hr h => ?_)
  · obtain ⟨_, _, _, rfl, _⟩ := h; rfl
  · obtain ⟨A, x, W, rfl, s0, R, h40, hin, k⟩ := h
    refine ⟨_, PSs.nox (pss_one (ps_ret (pe_callB (cr_min rfl) rfl T.n_min (by decide +kernel) (pa_cons (pe_lc (own := [("room", 1)]) (g := gName 1) rfl sc_Wood_new_room.nd (pi_range2 rfl T.n_range (pa_cons pe_int (pa_cons (pe_op op_add (pe_fldK K rfl (pv 0) rfl) pe_int) pa_nil))) (blkOk_by (own := [("room", 1)]) (N := ["self", "room"]) (sc := (defScope s_Wood_new_room)) (by decide +kernel)) (fun _ _ _ _ _ => pg_name (i := 1) sc_Wood_new_room.nd rfl (Or.inl rfl)) (fun _ _ _ _ _ => by exact (pts_one (pt_cmp (pc_dnotin (hu_of hr) (pv 1) (pe_fldK K rfl (pv 0) rfl))))) (fun _ _ _ _ _ => by exact (pv 1))) pa_nil)))), ?_⟩
    have hp := s0 _ _ R.ins
    refine ⟨_, rfl, x.p, _, _, _, _, rfl, hp, T.cl_Wood, T.a_rooms, wf_rooms, _, _, rfl, rfl, 1, W.rooms + 1, rfl, ⟨by decide, by decide, by have := (mem_freeR.mp hin).1; omega, by omega⟩, fun D nD => ?_⟩
    have ln : (W.rooms + 1 - 1).toNat = W.rooms.toNat := by congr 1; omega
    rw [ln]
    refine lc_range (lo := 1) (n := W.rooms.toNat) (fun i H' => H' = upd H D (.lst ((((List.range i).map fun (i : Nat) => (1 : Int) + (i : Int)).filter fun r => !has W.frames r).map V.int))) rfl ?_ ?_
    · rintro i H' hi rfl
      have hp' : upd H D (.lst ((((List.range i).map fun (i : Nat) => (1 : Int) + (i : Int)).filter fun r => !has W.frames r).map V.int)) x.p = some _ := (upd_ne (ne_of_none hp nD)).trans hp
      have hfa := s0 _ _ R.frs
      have hfa' : upd H D (.lst ((((List.range i).map fun (i : Nat) => (1 : Int) + (i : Int)).filter fun r => !has W.frames r).map V.int)) x.fa = some _ := (upd_ne (ne_of_none hfa nD)).trans hfa
      refine ⟨rfl, _, rfl, _, rfl, x.p, _, _, _, _, rfl, hp', T.cl_Wood, T.a_frames, wf_frames, x.fa, _, rfl, DGet.k (k := Sum.inl (1 + (i : Int))) hfa', _, rfl, ?_⟩
      rw [valV_fr, List.range_succ, List.map_append, List.filter_append, List.map_append]
      have len : ((((List.range i).map fun (i : Nat) => (1 : Int) + (i : Int)).filter fun r => !has W.frames r).map V.int).length ≤ 100 := by
        rw [List.length_map]
        refine Nat.le_trans (List.length_filter_le _ _) ?_
        rw [List.length_map, List.length_range]; omega
      cases e : lk W.frames (1 + (i : Int)) with
      | none =>
        have hh : has W.frames (1 + (i : Int)) = false := has_false.mpr e
        refine iteT ⟨_, rfl, _, upd_same, szl (by omega), ?_⟩
        rw [upd_upd]; simp [hh]
      | some f =>
        have hh : has W.frames (1 + (i : Int)) = true := has_true.mpr ⟨f, e⟩
        refine iteF ?_
        simp [hh]
    · rintro H' rfl
      have e1 : (((List.range W.rooms.toNat).map fun (i : Nat) => (1 : Int) + (i : Int)).filter fun r => !has W.frames r) = freeR W.rooms W.frames := rfl
      rw [e1]
      refine ⟨D, _, rfl, SqL.of upd_same, List.length_pos_of_mem hin, fun m hm hle => ?_⟩
      have := min_head (freeR_sorted W.rooms W.frames) hm hle
      have e2 : m = newRoom W.rooms W.frames := this
      rw [e2]
      exact k _ (same_new nD _)
theorem ok_Wood_want (T : Txt K mg) : FnOk P w K mg base CX0 1 (aW K "want") (fdOf K (aW K "want")) ["self", "room"] (spWant K) := by
  refine T.F_Wood_want.ok sc_Wood_want (fun vs H Q E h => ?_) (fun cdv A outer s H vs Q E hr h => ?_)
  · obtain ⟨_, _, _, _, rfl, _⟩ := h; rfl
  · obtain ⟨A, x, W, r, rfl, s0, R, hin, k⟩ := h
    refine ⟨_, PSs.nox (pss_one (ps_if (pt_cmpR op_notN1 (pv 1) pe_non (nomark _)) (pss_one (ps_fld (pe_dget (hu_of hr) (pe_fldK K rfl (pv 0) rfl) (pv 1) (fun _ _ => rfl)) (pe_op op_add (pe_fldK K rfl (pe_dget (hu_of hr) (pe_fldK K rfl (pv 0) rfl) (pv 1) (fun _ _ => rfl)) rfl) pe_int) rfl)) pss_nil)), ?_⟩
    have hp := s0 _ _ R.ins
    refine ⟨_, rfl, rfl, _, rfl, ?_⟩
    cases r with
    | none => exact iteF (k A H R (Stp.refl s0))
    | some q =>
      obtain ⟨f, e⟩ := hin q rfl
      have hfr := s0 _ _ (R.fr q f e)
      have hget : DGet H x.fa (V.int q) (some (V.ref (x.fo q))) := by
        have := DGet.k (k := Sum.inl q) (s0 _ _ R.frs)
        rw [valV_fr, e] at this; exact this
      refine iteT ⟨_, rfl, x.p, _, _, _, _, rfl, hp, T.cl_Wood, T.a_frames, wf_frames, _, rfl, x.fa, _, rfl, hget, x.fo q, _, _, _, _, rfl, hfr, T.cl_Frame, T.a_needs, ff_needs, _, _, rfl, rfl, _, rfl, x.p, _, _, _, _, rfl, hp, T.cl_Wood, T.a_frames, wf_frames, _, rfl, x.fa, _, rfl, hget, x.fo q, _, _, _, rfl, hfr, T.cl_Frame, T.a_needs, by show 3 < 1000; decide, ?_⟩
      have R' := R.setFr e f.below (f.needs + 1)
      have := k _ _ (by simpa only [wantF, e] using R') ((Stp.refl s0).upd (R.fr q f e) _)
      exact this
theorem ok_Wood_leave (T : Txt K mg) : FnOk P w K mg base CX0 1 (aW K "leave") (fdOf K (aW K "leave")) ["self", "room"] (spLeave K) := by
  refine T.F_Wood_leave.ok sc_Wood_leave (fun vs H Q E h => ?_) (fun cdv A outer s H vs Q E hr h => ?_)
  · obtain ⟨_, _, _, _, _, rfl, _⟩ := h; rfl
  · obtain ⟨A, x, W, r, gs, rfl, s0, R, hl, nd0, k⟩ := h
    refine ⟨_, PSs.nox (pss_one (ps_while PassesOwn.never (pt_cmpR op_notN1 (pv 1) pe_non (nomark _)) (pss_cons (ps_set (i := 2) sc_Wood_leave.nd rfl (Or.inl rfl) (pe_dget (hu_of hr) (pe_fldK K rfl (pv 0) rfl) (pv 1) (fun _ _ => rfl))) (pss_cons (ps_fld (pv 2) (pe_op op_sub (pe_fldK K rfl (pv 2) rfl) pe_int) rfl) (pss_cons (ps_if (pt_cmpR op_gt (pe_fldK K rfl (pv 2) rfl) pe_int (nomark _)) (pss_one ps_retN) pss_nil) (pss_cons (ps_expr (pe_dpop1 (pe_fldK K rfl (pv 0) rfl) (pv 1) ⟨rfl, rfl, rfl, rfl⟩)) (pss_one (ps_set (i := 1) sc_Wood_leave.nd rfl (Or.inl rfl) (pe_fldK K rfl (pv 2) rfl))))))))), ?_⟩
    refine ⟨fun m σ H' => ∃ (A' : Hp) (fs : Fs) (y : Option Int) (z : Option V), σ = [some (.ref x.p), some (oV y), z] ∧ WA K A' x { W with frames := fs } ∧ Stp A H A' H' ∧ Leave fs y gs ∧ (ks fs).Nodup ∧ m = fs.length, ⟨_, A, W.frames, r, none, rfl, R, Stp.refl s0, hl, nd0, rfl⟩, ?_⟩
    rintro m σ H' ⟨A', fs, y, z, rfl, R', S, hy, nd1, rfl⟩
    have hp := S.own _ _ R'.ins
    refine ⟨_, rfl, rfl, _, rfl, ?_⟩
    cases hy with
    | nil => exact iteF (k A' H' R' S)
    | @stop _ q f e g =>
      have hfr := S.own _ _ (R'.fr q f e)
      have hget : DGet H' x.fa (V.int q) (some (V.ref (x.fo q))) := by
        have := DGet.k (k := Sum.inl q) (S.own _ _ R'.frs)
        rw [valV_fr, e] at this; exact this
      refine iteT ⟨fun _ _ => False, fun _ _ h => h.elim, ?_⟩
      refine ⟨_, rfl, x.p, _, _, _, _, rfl, hp, T.cl_Wood, T.a_frames, wf_frames, _, rfl, x.fa, _, rfl, hget, ?_⟩
      refine ⟨_, rfl, x.fo q, _, _, _, _, rfl, hfr, T.cl_Frame, T.a_needs, ff_needs, _, _, rfl, rfl, _, rfl, x.fo q, _, _, _, rfl, hfr, T.cl_Frame, T.a_needs, by show 3 < 1000; decide, ?_⟩
      refine ⟨_, rfl, x.fo q, _, _, _, _, rfl, upd_same, T.cl_Frame, T.a_needs, (by rfl), _, _, rfl, rfl, _, rfl, ?_⟩
      rw [decide_eq_true (show 0 < f.needs - 1 from g)]
      refine iteT ?_
      exact k _ _ (R'.setFr e f.below (f.needs - 1)) (S.upd (R'.fr q f e) _)
    | @go _ _ q f e g hrest =>
      have hfr := S.own _ _ (R'.fr q f e)
      have hget : DGet H' x.fa (V.int q) (some (V.ref (x.fo q))) := by
        have := DGet.k (k := Sum.inl q) (S.own _ _ R'.frs)
        rw [valV_fr, e] at this; exact this
      refine iteT ⟨fun σ' H'' => ∃ (A'' : Hp) (fs' : Fs) (y : Option Int) (z : Option V), σ' = [some (.ref x.p), some (oV y), z] ∧ WA K A'' x { W with frames := fs' } ∧ Stp A H A'' H'' ∧ Leave fs' y gs ∧ (ks fs').Nodup ∧ fs'.length < fs.length, fun σ' H'' ⟨A'', fs', y, z, a1, a2, a3, a4, a5, a6⟩ => ⟨_, a6, A'', fs', y, z, a1, a2, a3, a4, a5, rfl⟩, ?_⟩
      refine ⟨_, rfl, x.p, _, _, _, _, rfl, hp, T.cl_Wood, T.a_frames, wf_frames, _, rfl, x.fa, _, rfl, hget, ?_⟩
      refine ⟨_, rfl, x.fo q, _, _, _, _, rfl, hfr, T.cl_Frame, T.a_needs, ff_needs, _, _, rfl, rfl, _, rfl, x.fo q, _, _, _, rfl, hfr, T.cl_Frame, T.a_needs, by show 3 < 1000; decide, ?_⟩
      refine ⟨_, rfl, x.fo q, _, _, _, _, rfl, upd_same, T.cl_Frame, T.a_needs, (by rfl), _, _, rfl, rfl, _, rfl, ?_⟩
      rw [decide_eq_false (show ¬ 0 < f.needs - 1 from g)]
      refine iteF ?_
      have R2 := R'.setFr e f.below (f.needs - 1)
      have S2 := S.upd (R'.fr q f e) (.ins (fK K) (x.fd q) (fF { f with needs := f.needs - 1 } (x.so q)))
      have e2 : lk (pt fs q { f with needs := f.needs - 1 }) q = some { f with needs := f.needs - 1 } := lk_pt_same _ _ _
      have hp2 := S2.own _ _ R2.ins
      have hfa2 := S2.own _ _ R2.frs
      refine ⟨_, rfl, x.p, _, _, _, _, rfl, hp2, T.cl_Wood, T.a_frames, wf_frames, x.fa, rfl, .inl ⟨_, .inl hfa2⟩, _, rfl, _, Sum.inl q, V.ref (x.fo q), hfa2, rfl, by rw [valV_fr, show lk (pt fs q { f with needs := f.needs - 1 }) q = _ from e2]; rfl, ?_⟩
      rw [dropK_fr]
      have R3 := R2.pop q
      have S3 := S2.upd R2.frs (.dK (frV x.fo (dr (pt fs q { f with needs := f.needs - 1 }) q)))
      have hfr3 := S3.own (x.fo q) _ ((upd_ne (ne_of (R2.fr q _ e2) R2.frs (by intro z; cases z))).trans (R2.fr q _ e2))
      refine ⟨_, rfl, x.fo q, _, _, _, _, rfl, hfr3, T.cl_Frame, T.a_below, ff_below, ?_⟩
      have ed : dr (pt fs q { f with needs := f.needs - 1 }) q = dr fs q := dr_pt fs q _
      refine ⟨_, dr fs q, f.below, _, rfl, ?_, S3, hrest, nd_dr nd1, by have := len_dr nd1 e; omega⟩
      rw [← ed]; exact R3
theorem ok_Frame_init (T : Txt K mg) : FnOk P w K mg base CX0 1 (aF K "__init__") (fdOf K (aF K "__init__")) ["self", "below", "slots"] (spFrame K) := by
  refine T.F_Frame_init.ok sc_Frame_init (fun vs H Q E h => ?_) (fun cdv A outer s H vs Q E hr h => ?_)
  · obtain ⟨_, _, _, _, _, rfl, _⟩ := h; rfl
  · obtain ⟨y, dx, s1, b, zs, rfl, hy, hs, k⟩ := h
    refine ⟨_, PSs.nox (pss_cons (ps_fld (pv 0) (pv 1) rfl) (pss_cons (ps_fld (pv 0) (pe_callTy (call_listK K rfl) rfl T.n_list (by decide +kernel) (pa_cons (pv 2) pa_nil)) rfl) (pss_one (ps_fld (pv 0) pe_int rfl)))), ?_⟩
    refine ⟨_, rfl, _, rfl, y, _, _, _, rfl, hy, T.cl_Frame, T.a_below, by show 0 < 1000; decide, ?_⟩
    have hs2 : SqL K (upd H y (.ins (fK K) dx (putF "below" (oV b) []))) s1 (zs.map V.int) := by
      rcases hs with (h | ⟨o, h⟩) | h
      · exact .inl (.inl ((upd_ne (ne_of h hy (by intro z; cases z))).trans h))
      · exact .inl (.inr ⟨o, (upd_ne (ne_of h hy (by intro z; cases z))).trans h⟩)
      · exact .inr h
    refine ⟨_, rfl, s1, _, rfl, .inl hs2, fun l nl => ?_⟩
    have nyl : y ≠ l := fun z => by rw [← z, upd_same] at nl; cases nl
    have nl0 : H l = none := by rw [upd_ne nyl.symm] at nl; exact nl
    refine ⟨_, rfl, y, _, _, _, rfl, (upd_ne nyl).trans upd_same, T.cl_Frame, T.a_slots, by show 1 < 1000; decide, ?_⟩
    refine ⟨_, rfl, y, _, _, _, rfl, upd_same, T.cl_Frame, T.a_needs, by show 2 < 1000; decide, ?_⟩
    rw [upd_upd, upd_back nyl]
    exact k l nl0
end
end Sk
end
section
/-! SwM2: the deeds of a wood keep their promises. -/
namespace Sk
open PySem PySem.Spec PyProof.Rows L2 SW
def ern : Er → Str
  | .hand => "NoHand"
  | .place => "NoPlace"
  | .call => "NoCall"
  | .slot => "NoSlot"
  | .room => "NoRoom"
/-- a refusal: nothing is changed -/
def Ref (K : PySem.W.Frag) (H : Hp) (E : XK) (e : Er) : Prop := ∀ H', Same H H' → E (eC K (ern e)) none H'
/-- what follows, the wood then being W' -/
def Then (K : PySem.W.Frag) (A H : Hp) (x : Ad) (W' : Wd) (Q : Hp → Prop) : Prop := ∀ A' x' H', x'.p = x.p → WA K A' x' W' → Stp A H A' H' → Q H'
/-- a method's head: the wood at x in the part A -/
structure At (K : PySem.W.Frag) (A H : Hp) (x : Ad) (W : Wd) : Prop where
  sub : Sub A H
  wa : WA K A x W
  wf : WFW W
theorem off_newA {A H : Hp} (s : Sub A H) {l : Addr} (nl : H l = none) : A l = none := by
  cases q : A l with
  | none => rfl
  | some u => rw [s _ _ q] at nl; cases nl
section
variable (K : PySem.W.Frag)
def spTurn : Sp := fun vs H Q _ => ∃ (A : Hp) (x : Ad) (W : Wd) (h : Int) (r : Option Int) (gs : Fs), vs = [.ref x.p, .int h, oV r] ∧ Sub A H ∧ WA K A x W ∧ hOk W h ∧ (∀ k, r = some k → ∃ f, lk W.frames k = some f) ∧ Leave (wantF W.frames r) (top W h) gs ∧ (ks W.frames).Nodup ∧
  ∀ A' H', WA K A' x { W with frames := gs, tops := W.tops.set h.toNat r } → Stp A H A' H' → Q .non H'
def spCall : Sp := fun vs H Q E => ∃ (A : Hp) (x : Ad) (W : Wd) (h : Int) (s : Addr) (zs : List Int), vs = [.ref x.p, .int h, .ref s] ∧ At K A H x W ∧ SqL K H s (zs.map V.int) ∧
  match doCall W h zs with
  | .error e => Ref K H E e
  | .ok (r, W') => Then K A H x W' (Q (.int r))
def spBack : Sp := fun vs H Q E => ∃ (A : Hp) (x : Ad) (W : Wd) (h : Int), vs = [.ref x.p, .int h] ∧ At K A H x W ∧
  match doBack W h with
  | .error e => Ref K H E e
  | .ok (zs, W') => ∀ l, H l = none → ∀ A' x' H', x'.p = x.p → WA K A' x' W' → Stp A H A' H' → A' l = none → H' l = some (.lst (zs.map V.int)) → Q (.ref l) H'
def spBranch : Sp := fun vs H Q E => ∃ (A : Hp) (x : Ad) (W : Wd) (h o : Int), vs = [.ref x.p, .int h, .int o] ∧ At K A H x W ∧
  match doBranch W h o with
  | .error e => Ref K H E e
  | .ok W' => Then K A H x W' (Q .non)
def spKeep : Sp := fun vs H Q E => ∃ (A : Hp) (x : Ad) (W : Wd) (h : Int), vs = [.ref x.p, .int h] ∧ At K A H x W ∧ W.marks.length ≤ 100000 ∧
  match doKeep W h with
  | .error e => Ref K H E e
  | .ok (p, W') => Then K A H x W' (Q (.int p))
def spLeap : Sp := fun vs H Q E => ∃ (A : Hp) (x : Ad) (W : Wd) (h p : Int), vs = [.ref x.p, .int h, .int p] ∧ At K A H x W ∧
  match doLeap W h p with
  | .error e => Ref K H E e
  | .ok W' => Then K A H x W' (Q .non)
def spForget : Sp := fun vs H Q E => ∃ (A : Hp) (x : Ad) (W : Wd) (p : Int), vs = [.ref x.p, .int p] ∧ At K A H x W ∧
  match doForget W p with
  | .error e => Ref K H E e
  | .ok W' => Then K A H x W' (Q .non)
end
theorem ixN_ok {n : Nat} {h : Int} (h0 : 0 ≤ h) (h1 : h < (n : Int)) : ixN n h = some h.toNat := by
  unfold ixN; rw [if_pos h0, if_pos h1]
theorem atI_tops {W : Wd} {h : Int} (k : hOk W h) : atI (W.tops.map oV) h = some (oV (top W h)) := by
  unfold atI
  rw [List.length_map, ixN_ok k.1 k.2]
  show (W.tops.map oV)[h.toNat]? = _
  rw [List.getElem?_map, top_get k]; rfl
theorem wf_no {W : Wd} {fa ta ma : Addr} {m : Str} (h : (["rooms", "frames", "tops", "marks", "many", "made"] : List Str).contains m = false) : (wF W fa ta ma).lookup m = none := by
  have e : ∀ l : List (Str × V), (l.map (·.1)).contains m = false → l.lookup m = none := by
    intro l
    induction l with
    | nil => intro _; rfl
    | cons p l ih =>
      intro h
      obtain ⟨a, b⟩ := p
      simp only [List.map_cons, List.contains_cons, Bool.or_eq_false_iff] at h
      simp only [List.lookup_cons, h.1]
      exact ih h.2
  exact e _ h
section
variable {P : Program} {w : World} {K : PySem.W.Frag} {mg : Str → Option Value} {base : Heap}
theorem ok_Wood_turn_to (T : Txt K mg) : FnOk P w K mg base CX0 2 (aW K "turn_to") (fdOf K (aW K "turn_to")) ["self", "hand", "room"] (spTurn K) := by
  refine T.F_Wood_turn_to.ok sc_Wood_turn_to (fun vs H Q E h => ?_) (fun cdv A outer s H vs Q E hr h => ?_)
  · obtain ⟨_, _, _, _, _, _, rfl, _⟩ := h; rfl
  · obtain ⟨A, x, W, h, r, gs, rfl, s0, R, hk, hin, hl, nd0, k⟩ := h
    refine ⟨_, PSs.nox (pss_cons (ps_expr (pe_meth (pv 0) T.cl_Wood T.m_want (ok_Wood_want T) (hr.mono (by decide)) T.b_Wood_want .nil pass0 (pa_cons (pv 2) pa_nil))) (pss_cons (ps_expr (pe_meth (pv 0) T.cl_Wood T.m_leave (ok_Wood_leave T) (hr.mono (by decide)) T.b_Wood_leave .nil pass0 (pa_cons (pe_ix (ix_listK K rfl) (pe_fldK K rfl (pv 0) rfl) (pv 1) (fun _ _ => rfl)) pa_nil))) (pss_one (ps_asg (pv 2) (pg_sub (pe_fldK K rfl (pv 0) rfl) (pv 1) set_list))))), ?_⟩
    refine ⟨_, rfl, x.p, _, _, rfl, s0 _ _ R.ins, wf_no (by decide +kernel), _, rfl, A, x, W, r, rfl, s0, R, hin, fun A1 H1 R1 S1 => ?_⟩
    have hp1 := S1.own _ _ R1.ins
    refine ⟨_, rfl, x.p, _, _, rfl, hp1, wf_no (by decide +kernel), _, rfl, x.p, _, _, _, _, rfl, hp1, T.cl_Wood, T.a_tops, wf_tops, _, rfl, x.ta, _, _, _, rfl, rfl, SqL.of (S1.own _ _ R1.tps), atI_tops (W := { W with frames := wantF W.frames r }) hk, ?_⟩
    refine ⟨A1, x, _, top W h, gs, rfl, S1.own, R1, hl, by show (ks (wantF W.frames r)).Nodup; rw [ks_want]; exact nd0, fun A2 H2 R2 S2 => ?_⟩
    have hp2 := S2.own _ _ R2.ins
    refine ⟨_, rfl, _, rfl, x.p, _, _, _, _, rfl, hp2, T.cl_Wood, T.a_tops, wf_tops, _, rfl, x.ta, _, h, h.toNat, rfl, rfl, S2.own _ _ R2.tps, by rw [List.length_map]; exact ixN_ok hk.1 hk.2, ?_⟩
    have e : ((W.tops.map oV).set h.toNat (oV r)) = (W.tops.set h.toNat r).map oV := by rw [List.map_set]
    rw [e]
    exact k _ _ (R2.setTops _) ((S1.trans S2).upd R2.tps _)
theorem ok_Wood_call (T : Txt K mg) : FnOk P w K mg base (L2.CX P w) 3 (aW K "call") (fdOf K (aW K "call")) ["self", "hand", "values"] (spCall K) := by
  refine T.F_Wood_call.ok (CX := L2.CX P w) sc_Wood_call (fun vs H Q E h => ?_) (fun cdv A outer s H vs Q E hr h => ?_)
  · obtain ⟨_, _, _, _, _, _, rfl, _⟩ := h; rfl
  · obtain ⟨A, x, W, h, s1, zs, rfl, ⟨s0, R, F⟩, hs, k⟩ := h
    refine ⟨_, (pss_cons (ps_expr (pe_meth (pv 0) T.cl_Wood T.m_need_hand (ok_Wood_need_hand T) (hr.mono (by decide)) T.b_Wood_need_hand .nil (passes_call (takes_of rfl rfl rfl rfl) (fun _ _ _ _ h => h)) (pa_cons (pv 1) pa_nil))) (pss_cons (ps_if (pt_cmpR op_gt (pe_callB (call_lenK K rfl) rfl T.n_len PySem.boot_len (pa_cons (pv 2) pa_nil)) (pe_cst T.i_MOST_VALUES rfl) (nomark _)) (pss_one (ps_raise rfl (takes_of rfl rfl rfl rfl) (pmk_own PySem.F.excBase_ValueError T.x_NoSlot.1 T.g_NoSlot T.x_NoSlot.2.1 (raises_own T.x_NoSlot.2.2.1 T.x_NoSlot.2.2.2) rfl))) pss_nil) (pss_cons (ps_expr (pe_meth (pv 0) T.cl_Wood T.m_need_free (ok_Wood_need_free T) (hr.mono (by decide)) T.b_Wood_need_free .nil (passes_call (takes_of rfl rfl rfl rfl) (fun _ _ _ _ h => h)) (pa_cons pe_int pa_nil))) (pss_cons (ps_set (i := 3) sc_Wood_call.nd rfl (Or.inl rfl) (pe_meth0 (pv 0) T.cl_Wood T.m_new_room (ok_Wood_new_room T) (hr.mono (by decide)) T.b_Wood_new_room .nil pass0)) (pss_cons (ps_dput (hu_of hr) (pe_fldK K rfl (pv 0) rfl) (pv 3) (pe_make T.mk_Frame (ok_Frame_init T) (hr.mono (by decide)) rfl T.g_Frame T.b_Frame_init .nil pass0 (pa_cons (pe_ix (ix_listK K rfl) (pe_fldK K rfl (pv 0) rfl) (pv 1) (fun _ _ => rfl)) (pa_cons (pv 2) pa_nil))) rfl) (pss_cons (ps_asg (pv 3) (pg_sub (pe_fldK K rfl (pv 0) rfl) (pv 1) set_list)) (pss_one (ps_ret (pv 3))))))))), ?_⟩
    unfold doCall at k
    have hp := s0 _ _ R.ins
    refine ⟨_, rfl, x.p, _, _, rfl, hp, wf_no (by decide +kernel), _, rfl, A, x, W, h, rfl, s0, R, fun hk => ?_, fun hk => ?_⟩
    · rw [if_neg (fun z => z hk)] at k
      refine ⟨_, rfl, s1, _, rfl, .inl hs, _, _, rfl, rfl, _, rfl, ?_⟩
      rw [List.length_map]
      by_cases h3 : 3 < zs.length
      · rw [if_pos h3] at k
        rw [decide_eq_true (show (3 : Int) < (zs.length : Int) by omega)]
        exact iteT (k _ (Same.refl _))
      · rw [if_neg h3] at k
        rw [decide_eq_false (show ¬ (3 : Int) < (zs.length : Int) by omega)]
        refine iteF ⟨_, rfl, x.p, _, _, rfl, hp, wf_no (by decide +kernel), A, x, W, 1, rfl, s0, R, fun hfree => ?_, fun hfull => ?_⟩
        · rw [if_neg (by omega)] at k
          have hin := newRoom_in F.wf.nd F.rng hfree
          obtain ⟨_, nn⟩ := mem_freeR.mp hin
          refine ⟨_, rfl, x.p, _, _, rfl, hp, wf_no (by decide +kernel), A, x, W, rfl, s0, R, F.r40, hin, fun H1 e1 => ?_⟩
          generalize hr0 : newRoom W.rooms W.frames = r at k nn
          have S1 := (Stp.refl s0).same e1
          have hp1 := S1.own _ _ R.ins
          refine ⟨_, rfl, x.p, _, _, _, _, rfl, hp1, T.cl_Wood, T.a_tops, wf_tops, _, rfl, x.ta, _, _, _, rfl, rfl, SqL.of (S1.own _ _ R.tps), atI_tops hk, _, rfl, fun y dx ny nd ne => ?_⟩
          have hs2 : SqL K (upd (upd H1 dx (.own y)) y (.ins (fK K) dx [])) s1 (zs.map V.int) := by
            refine Same.seq (fun b o e => ?_) hs
            have := e1 _ _ e
            rw [upd_ne (ne_of_none this ny), upd_ne (ne_of_none this nd)]; exact this
          refine ⟨y, dx, s1, top W h, zs, rfl, upd_same, hs2, fun l nl => ⟨rfl, ?_⟩⟩
          have nly : y ≠ l := fun z => by rw [← z, upd_same] at nl; cases nl
          have nld : dx ≠ l := fun z => by
            rw [← z, upd_ne ne, upd_same] at nl; cases nl
          have nl1 : H1 l = none := by rw [upd_ne nly.symm, upd_ne nld.symm] at nl; exact nl
          rw [upd_back nly]
          have S2 : Stp A H A (upd H1 dx (.own y)) := S1.gar nd _
          have S3 := S2.new' (a := l) (by rw [upd_ne nld.symm]; exact nl1) (.lst (zs.map V.int))
          have S4 := S3.new' (a := y) (by rw [upd_ne nly, upd_ne ne.symm]; exact ny) (.ins (fK K) dx (fF ⟨top W h, zs, 1⟩ l))
          have nyA := S1.free ny
          have nlA := S1.free nl1
          have R4 := R.newFr nn nyA nlA nly.symm ⟨top W h, zs, 1⟩ (d := dx)
          have old : ∀ {b : Addr} {o : HO}, A b = some o → upd (upd A l (.lst (zs.map V.int))) y (.ins (fK K) dx (fF ⟨top W h, zs, 1⟩ l)) b = some o := fun {b o} e => by
            rw [upd_ne (ne_of_none e nyA), upd_ne (ne_of_none e nlA)]; exact e
          have hp4 := S4.own _ _ (old R.ins)
          refine ⟨_, rfl, x.p, _, _, _, _, rfl, hp4, T.cl_Wood, T.a_frames, wf_frames, _, rfl, x.fa, _, rfl, DPut.k (k := Sum.inl r) (S4.own _ _ (old R.frs)) (szl (by rw [frV_len]; have := F.len; omega)), ?_⟩
          rw [putK_fr y ⟨top W h, zs, 1⟩ nn]
          have S5 := S4.upd (old R.frs) (.dK (frV (fun k => if k = r then y else x.fo k) (pt W.frames r ⟨top W h, zs, 1⟩)))
          have hp5 := S5.own _ _ R4.ins
          refine ⟨_, rfl, _, rfl, x.p, _, _, _, _, rfl, hp5, T.cl_Wood, T.a_tops, wf_tops, _, rfl, x.ta, _, h, h.toNat, rfl, rfl, S5.own _ _ R4.tps, by rw [List.length_map]; exact ixN_ok hk.1 hk.2, ?_⟩
          have e : ((W.tops.map oV).set h.toNat (V.int r)) = (W.tops.set h.toNat (some r)).map oV := by rw [List.map_set]; rfl
          rw [e]
          exact ⟨_, rfl, k _ { x with fo := fun k => if k = r then y else x.fo k, so := fun k => if k = r then l else x.so k, fd := fun k => if k = r then dx else x.fd k } _ rfl (R4.setTops (W.tops.set h.toNat (some r))) (S5.upd R4.tps _)⟩
        · rw [if_pos hfull] at k
          exact k _ (Same.refl _)
    · rw [if_pos hk] at k
      exact k _ (Same.refl _)
theorem get_fr {H : Hp} {x : Ad} {fs : Fs} {r : Int} {f : Fr} (h : H x.fa = some (.dK (frV x.fo fs))) (e : lk fs r = some f) : DGet H x.fa (V.int r) (some (V.ref (x.fo r))) := by
  have := DGet.k (k := Sum.inl r) h
  rw [valV_fr, e] at this; exact this
theorem turn_goal {W : Wd} (F : WFW W) {h : Int} (hk : hOk W h) {r : Option Int} (hin : ∀ k, r = some k → ∃ f, lk W.frames k = some f) : Leave (wantF W.frames r) (top W h) (turnTo W h r).frames := (turnTo_ok F hk hin).lv
theorem ok_Wood_back (T : Txt K mg) : FnOk P w K mg base (L2.CX P w) 3 (aW K "back") (fdOf K (aW K "back")) ["self", "hand"] (spBack K) := by
  refine T.F_Wood_back.ok (CX := L2.CX P w) sc_Wood_back (fun vs H Q E h => ?_) (fun cdv A outer s H vs Q E hr h => ?_)
  · obtain ⟨_, _, _, _, rfl, _⟩ := h; rfl
  · obtain ⟨A, x, W, h, rfl, ⟨s0, R, F⟩, k⟩ := h
    refine ⟨_, (pss_cons (ps_expr (pe_meth (pv 0) T.cl_Wood T.m_need_hand (ok_Wood_need_hand T) (hr.mono (by decide)) T.b_Wood_need_hand .nil (passes_call (takes_of rfl rfl rfl rfl) (fun _ _ _ _ h => h)) (pa_cons (pv 1) pa_nil))) (pss_cons (ps_set (i := 2) sc_Wood_back.nd rfl (Or.inl rfl) (pe_ix (ix_listK K rfl) (pe_fldK K rfl (pv 0) rfl) (pv 1) (fun _ _ => rfl))) (pss_cons (ps_if (pt_cmpR op_isN1 (pv 2) pe_non (nomark _)) (pss_one (ps_raise rfl (takes_of rfl rfl rfl rfl) (pmk_own PySem.F.excBase_ValueError T.x_NoCall.1 T.g_NoCall T.x_NoCall.2.1 (raises_own T.x_NoCall.2.2.1 T.x_NoCall.2.2.2) rfl))) pss_nil) (pss_cons (ps_set (i := 3) sc_Wood_back.nd rfl (Or.inl rfl) (pe_callTy (call_listK K rfl) rfl T.n_list (by decide +kernel) (pa_cons (pe_fldK K rfl (pe_dget (hu_of hr) (pe_fldK K rfl (pv 0) rfl) (pv 2) (fun _ _ => rfl)) rfl) pa_nil))) (pss_cons (ps_expr (pe_meth (pv 0) T.cl_Wood T.m_turn_to (ok_Wood_turn_to T) (hr.mono (by decide)) T.b_Wood_turn_to .nil pass0 (pa_cons (pv 1) (pa_cons (pe_fldK K rfl (pe_dget (hu_of hr) (pe_fldK K rfl (pv 0) rfl) (pv 2) (fun _ _ => rfl)) rfl) pa_nil)))) (pss_one (ps_ret (pv 3)))))))), ?_⟩
    unfold doBack at k
    have hp := s0 _ _ R.ins
    refine ⟨_, rfl, x.p, _, _, rfl, hp, wf_no (by decide +kernel), _, rfl, A, x, W, h, rfl, s0, R, fun hk => ?_, fun hk => ?_⟩
    · rw [if_neg (fun z => z hk)] at k
      refine ⟨_, rfl, x.p, _, _, _, _, rfl, hp, T.cl_Wood, T.a_tops, wf_tops, _, rfl, x.ta, _, _, _, rfl, rfl, SqL.of (s0 _ _ R.tps), atI_tops hk, ?_⟩
      refine ⟨_, rfl, rfl, _, rfl, ?_⟩
      cases et : top W h with
      | none =>
        rw [et] at k
        exact iteT (k _ (Same.refl _))
      | some r =>
        rw [et] at k
        obtain ⟨f, e⟩ := F.topIn h r et
        simp only [e] at k
        have hfr := s0 _ _ (R.fr r f e)
        refine iteF ⟨_, rfl, x.p, _, _, _, _, rfl, hp, T.cl_Wood, T.a_frames, wf_frames, _, rfl, x.fa, _, rfl, get_fr (s0 _ _ R.frs) e, x.fo r, _, _, _, _, rfl, hfr, T.cl_Frame, T.a_slots, ff_slots, x.so r, _, rfl, .inl (SqL.of (s0 _ _ (R.sl r f e))), fun l nl => ?_⟩
        have S1 := (Stp.refl s0).gar nl (.lst (f.slots.map V.int))
        have hp1 := S1.own _ _ R.ins
        have hin : ∀ k, f.below = some k → ∃ f, lk W.frames k = some f := fun b hb => F.wf.bin r f b e hb
        refine ⟨_, rfl, x.p, _, _, rfl, hp1, wf_no (by decide +kernel), _, rfl, _, rfl, x.p, _, _, _, _, rfl, hp1, T.cl_Wood, T.a_frames, wf_frames, _, rfl, x.fa, _, rfl, get_fr (S1.own _ _ R.frs) e, x.fo r, _, _, _, _, rfl, S1.own _ _ (R.fr r f e), T.cl_Frame, T.a_below, ff_below, ?_⟩
        refine ⟨A, x, W, h, f.below, _, rfl, S1.own, R, hk, hin, turn_goal F hk hin, F.wf.nd, fun A2 H2 R2 S2 => ?_⟩
        have nA2 : A2 l = none := by
          cases q : A2 l with
          | none => rfl
          | some u =>
            have := S2.new l (off_newA s0 nl) (by rw [q]; simp)
            rw [upd_same] at this; cases this
        refine ⟨_, rfl, k l nl A2 x H2 rfl R2 (S1.trans S2) nA2 ?_⟩
        exact S2.oth l _ upd_same ((Stp.refl s0).free nl)
    · rw [if_pos hk] at k
      exact k _ (Same.refl _)
theorem ok_Wood_branch (T : Txt K mg) : FnOk P w K mg base (L2.CX P w) 3 (aW K "branch") (fdOf K (aW K "branch")) ["self", "hand", "other"] (spBranch K) := by
  refine T.F_Wood_branch.ok (CX := L2.CX P w) sc_Wood_branch (fun vs H Q E h => ?_) (fun cdv A outer s H vs Q E hr h => ?_)
  · obtain ⟨_, _, _, _, _, rfl, _⟩ := h; rfl
  · obtain ⟨A, x, W, h, o, rfl, ⟨s0, R, F⟩, k⟩ := h
    refine ⟨_, (pss_cons (ps_expr (pe_meth (pv 0) T.cl_Wood T.m_need_hand (ok_Wood_need_hand T) (hr.mono (by decide)) T.b_Wood_need_hand .nil (passes_call (takes_of rfl rfl rfl rfl) (fun _ _ _ _ h => h)) (pa_cons (pv 1) pa_nil))) (pss_cons (ps_expr (pe_meth (pv 0) T.cl_Wood T.m_need_hand (ok_Wood_need_hand T) (hr.mono (by decide)) T.b_Wood_need_hand .nil (passes_call (takes_of rfl rfl rfl rfl) (fun _ _ _ _ h => h)) (pa_cons (pv 2) pa_nil))) (pss_one (ps_expr (pe_meth (pv 0) T.cl_Wood T.m_turn_to (ok_Wood_turn_to T) (hr.mono (by decide)) T.b_Wood_turn_to .nil pass0 (pa_cons (pv 2) (pa_cons (pe_ix (ix_listK K rfl) (pe_fldK K rfl (pv 0) rfl) (pv 1) (fun _ _ => rfl)) pa_nil))))))), ?_⟩
    unfold doBranch at k
    have hp := s0 _ _ R.ins
    refine ⟨_, rfl, x.p, _, _, rfl, hp, wf_no (by decide +kernel), _, rfl, A, x, W, h, rfl, s0, R, fun hk => ?_, fun hk => ?_⟩
    · rw [if_neg (fun z => z hk)] at k
      refine ⟨_, rfl, x.p, _, _, rfl, hp, wf_no (by decide +kernel), _, rfl, A, x, W, o, rfl, s0, R, fun ho => ?_, fun ho => ?_⟩
      · rw [if_neg (fun z => z ho)] at k
        refine ⟨_, rfl, x.p, _, _, rfl, hp, wf_no (by decide +kernel), _, rfl, _, rfl, x.p, _, _, _, _, rfl, hp, T.cl_Wood, T.a_tops, wf_tops, _, rfl, x.ta, _, _, _, rfl, rfl, SqL.of (s0 _ _ R.tps), atI_tops hk, ?_⟩
        exact ⟨A, x, W, o, top W h, _, rfl, s0, R, ho, F.topIn h, turn_goal F ho (F.topIn h), F.wf.nd, fun A2 H2 R2 S2 => k A2 x H2 rfl R2 S2⟩
      · rw [if_pos ho] at k
        exact k _ (Same.refl _)
    · rw [if_pos hk] at k
      exact k _ (Same.refl _)
end
end Sk
end
section
/-! SwM3: a wood is made; what it tells. -/
namespace Sk
open PySem PySem.Spec PyProof.Rows L2 SW
def newW (hands rooms : Int) : Wd := ⟨rooms, [], List.replicate hands.toNat none, [], 0, 0⟩
theorem newW_wf {hands rooms : Int} (h1 : 1 ≤ hands) (h6 : hands ≤ 6) (r1 : 1 ≤ rooms) (r40 : rooms ≤ 40) : WFW (newW hands rooms) := by
  have c0 : ∀ (n : Nat) r, cR (List.replicate n none) r = 0 := by
    intro n r
    induction n with
    | zero => rfl
    | succ n ih => rw [List.replicate_succ]; simp [cR, ih, one_none]
  refine ⟨⟨by simp [newW, ks], fun r f e => by simp [newW, lk] at e, fun r f e => by simp [newW, lk] at e, fun r h => ?_, fun k f r e => by simp [newW, lk] at e, fun r f e => by simp [newW, lk] at e⟩, r1, r40, fun r hr => by simp [newW, ks] at hr, by simp [newW, ks], fun k hk => by simp [newW, ks] at hk, Int.le_refl _, ?_, ?_⟩
  · have : 1 ≤ cR (List.replicate hands.toNat none) r + cR (mv []) r := h
    rw [c0] at this
    simp [mv, cR] at this
  · simp [newW]; omega
  · simp [newW]; omega
/-- a list of lists of ints: its cells -/
def LL (H : Hp) (p : Addr) (cs : List (Addr × List Int)) : Prop := H p = some (.lst (cs.map fun c => V.ref c.1)) ∧ ∀ c ∈ cs, H c.1 = some (.lst (c.2.map V.int))
/-- .. all of it new since H -/
structure NewLL (H H' : Hp) (p : Addr) (vs : List (List Int)) (cs : List (Addr × List Int)) : Prop where
  same : Same H H'
  np : H p = none
  ll : LL H' p cs
  vals : cs.map (·.2) = vs
  nd : (p :: cs.map (·.1)).Nodup
  nc : ∀ c ∈ cs, H c.1 = none
def Kp (y : Addr) (H H1 : Hp) : Prop := ∀ b o, b ≠ y → H b = some o → H1 b = some o
theorem Kp.y {y : Addr} {H H1 : Hp} (k : Kp y H H1) (o : HO) : Kp y H (upd H1 y o) := fun b u n e => by rw [upd_ne n]; exact k b u n e
theorem Kp.n {y a : Addr} {H H1 : Hp} (k : Kp y H H1) (h : H1 a = none) (o : HO) : Kp y H (upd H1 a o) := fun b u n e => by
  have := k b u n e
  rw [upd_ne (ne_of_none this h)]; exact this
theorem Kp.free {y a : Addr} {H H1 : Hp} (k : Kp y H H1) (h : H1 a = none) (n : a ≠ y) : H a = none := by
  cases e : H a with
  | none => rfl
  | some o => rw [k a o n e] at h; cases h
def oN : Option Nat → V
  | none => .non
  | some i => .int (i : Int)
def InR (hands rooms : Int) : Prop := (1 ≤ hands ∧ hands ≤ 6) ∧ (1 ≤ rooms ∧ rooms ≤ 40)
section
variable (K : PySem.W.Frag)
def spWood : Sp := fun vs H Q E => ∃ (y dx : Addr) (hands rooms : Int), vs = [.ref y, .int hands, .int rooms] ∧ H y = some (.ins (wK K) dx []) ∧
  (InR hands rooms → ∀ A' x' H', x'.p = y → WA K A' x' (newW hands rooms) → Sub A' H' → Kp y H H' → (∀ b, A' b ≠ none → b = y ∨ H b = none) → Q .non H') ∧ (¬ InR hands rooms → E (eC K "BadWood") none H)
def spLook : Sp := fun vs H Q E => ∃ (A : Hp) (x : Ad) (W : Wd) (h : Int), vs = [.ref x.p, .int h] ∧ At K A H x W ∧
  (hOk W h → ∀ H' p cs, NewLL H H' p (vl W.frames (top W h)) cs → Q (.ref p) H') ∧ (¬ hOk W h → Ref K H E .hand)
def spGlance : Sp := fun vs H Q E => ∃ (A : Hp) (x : Ad) (W : Wd) (p : Int), vs = [.ref x.p, .int p] ∧ At K A H x W ∧
  (∀ y, lk W.marks p = some y → ∀ H' p cs, NewLL H H' p (vl W.frames y) cs → Q (.ref p) H') ∧ (lk W.marks p = none → Ref K H E .place)
def spPlaces : Sp := fun vs H Q _ => ∃ (A : Hp) (x : Ad) (W : Wd), vs = [.ref x.p] ∧ At K A H x W ∧ W.marks.length ≤ 10000 ∧ ∀ p, H p = none → Q (.ref p) (upd H p (.lst ((ks W.marks).map V.int)))
def spWay : Sp := fun vs H Q E => ∃ (A : Hp) (x : Ad) (W : Wd) (h d : Int), vs = [.ref x.p, .int h, .int d] ∧ At K A H x W ∧
  match doWay W h d with
  | .error e => Ref K H E e
  | .ok (q, o) => ∀ H' t l, Same H H' → H l = none → H' t = some (.tup [.ref l, oN o]) → H' l = some (.lst (q.map V.int)) → Q (.ref t) H'
def spPrice : Sp := fun vs H Q E => ∃ (A : Hp) (x : Ad) (W : Wd) (h d : Int), vs = [.ref x.p, .int h, .int d] ∧ At K A H x W ∧
  match doPrice W h d with
  | .error e => Ref K H E e
  | .ok n => ∀ H', Same H H' → Q (.int n) H'
end
section
variable {P : Program} {w : World} {K : PySem.W.Frag} {mg : Str → Option Value} {base : Heap}
theorem ok_Wood_init (T : Txt K mg) : FnOk P w K mg base (L2.CX P w) 1 (aW K "__init__") (fdOf K (aW K "__init__")) ["self", "hands", "rooms"] (spWood K) := by
  refine T.F_Wood_init.ok (CX := L2.CX P w) sc_Wood_init (fun vs H Q E h => ?_) (fun cdv A outer s H vs Q E hr h => ?_)
  · obtain ⟨_, _, _, _, rfl, _⟩ := h; rfl
  · obtain ⟨y, dx, hands, rooms, rfl, hy, ky, kn⟩ := h
    refine ⟨_, (pss_cons (ps_if (PW.pt (pw_or (pt_not (pt_chain op_le op_le pe_int (pv 1) (pe_cst T.i_MOST_HANDS rfl))) (pw_or1 (pt_not (pt_chain op_le op_le pe_int (pv 2) (pe_cst T.i_MOST_ROOMS rfl)))))) (pss_one (ps_raise rfl (takes_of rfl rfl rfl rfl) (pmk_own PySem.F.excBase_ValueError T.x_BadWood.1 T.g_BadWood T.x_BadWood.2.1 (raises_own T.x_BadWood.2.2.1 T.x_BadWood.2.2.2) rfl))) pss_nil) (pss_cons (ps_fld (pv 0) (pv 2) rfl) (pss_cons (ps_fld (pv 0) pe_dnewK rfl) (pss_cons (ps_fld (pv 0) (pe_lc (own := [("hand", 3)]) (g := gName 3) rfl sc_Wood_init.nd (pi_range1 rfl T.n_range (pa_cons (pv 1) pa_nil)) (blkOk_by (own := [("hand", 3)]) (N := ["self", "hands", "rooms", "hand"]) (sc := (defScope s_Wood_init)) (by decide +kernel)) (fun _ _ _ _ _ => pg_name (i := 3) sc_Wood_init.nd rfl (Or.inl rfl)) (fun _ _ _ _ _ => by exact pts_nil) (fun _ _ _ _ _ => by exact pe_non)) rfl) (pss_cons (ps_fld (pv 0) pe_dnewK rfl) (pss_cons (ps_fld (pv 0) pe_int rfl) (pss_one (ps_fld (pv 0) pe_int rfl)))))))), ?_⟩
    refine ⟨_, rfl, _, _, rfl, rfl, _, rfl, ?_⟩
    by_cases a1 : 1 ≤ hands
    · rw [decide_eq_true a1]
      refine iteT ⟨_, _, rfl, rfl, _, rfl, ?_⟩
      by_cases a2 : hands ≤ 6
      · rw [decide_eq_true a2]
        refine iteF ⟨_, rfl, _, _, rfl, rfl, _, rfl, ?_⟩
        by_cases b1 : 1 ≤ rooms
        · rw [decide_eq_true b1]
          refine iteT ⟨_, _, rfl, rfl, _, rfl, ?_⟩
          by_cases b2 : rooms ≤ 40
          · rw [decide_eq_true b2]
            refine iteF ?_
            refine ⟨_, rfl, _, rfl, y, _, _, _, rfl, hy, T.cl_Wood, T.a_rooms, by show 0 < 1000; decide, ?_⟩
            have k0 : Kp y H H := fun _ _ _ e => e
            have k1 := k0.y (.ins (wK K) dx (putF "rooms" (V.int rooms) []))
            intro fa nf
            have nfy : fa ≠ y := fun z => by rw [z, upd_same] at nf; cases nf
            have k2 := k1.n nf (.dK [])
            refine ⟨_, rfl, y, _, _, _, rfl, (upd_ne nfy.symm).trans upd_same, T.cl_Wood, T.a_frames, by show 1 < 1000; decide, ?_⟩
            have k3 := k2.y (.ins (wK K) dx (putF "frames" (V.ref fa) (putF "rooms" (V.int rooms) [])))
            refine ⟨_, rfl, hands, rfl, by omega, by omega, fun ta nt => ?_⟩
            have nty : ta ≠ y := fun z => by rw [z, upd_same] at nt; cases nt
            have ntf : ta ≠ fa := fun z => by rw [z, upd_ne nfy, upd_same] at nt; cases nt
            refine lc_range (lo := 0) (n := hands.toNat) (fun i H' => H' = upd (upd (upd (upd H y (.ins (wK K) dx (putF "rooms" (V.int rooms) []))) fa (.dK [])) y (.ins (wK K) dx (putF "frames" (V.ref fa) (putF "rooms" (V.int rooms) [])))) ta (.lst (List.replicate i V.non))) rfl ?_ ?_
            · rintro i H' hi rfl
              refine ⟨rfl, yesT rfl ?_⟩
              refine ⟨_, upd_same, szl (by rw [List.length_replicate]; omega), ?_⟩
              rw [upd_upd, List.replicate_succ']
            · rintro H' rfl
              have k4 := k3.n nt (.lst (List.replicate hands.toNat V.non))
              refine ⟨_, rfl, y, _, _, _, rfl, (upd_ne nty.symm).trans upd_same, T.cl_Wood, T.a_tops, by show 2 < 1000; decide, ?_⟩
              have k5 := k4.y (.ins (wK K) dx (putF "tops" (V.ref ta) (putF "frames" (V.ref fa) (putF "rooms" (V.int rooms) []))))
              intro ma nm
              have nmy : ma ≠ y := fun z => by rw [z, upd_same] at nm; cases nm
              have nmt : ma ≠ ta := fun z => by rw [z, upd_ne nty, upd_same] at nm; cases nm
              have nmf : ma ≠ fa := fun z => by rw [z, upd_ne nfy, upd_ne ntf.symm, upd_ne nfy, upd_same] at nm; cases nm
              have k6 := k5.n nm (.dK [])
              refine ⟨_, rfl, y, _, _, _, rfl, (upd_ne nmy.symm).trans upd_same, T.cl_Wood, T.a_marks, by show 3 < 1000; decide, ?_⟩
              refine ⟨_, rfl, y, _, _, _, rfl, upd_same, T.cl_Wood, T.a_many, by show 4 < 1000; decide, ?_⟩
              refine ⟨_, rfl, y, _, _, _, rfl, upd_same, T.cl_Wood, T.a_made, by show 5 < 1000; decide, ?_⟩
              have k9 := ((k6.y (.ins (wK K) dx (putF "marks" (V.ref ma) (putF "tops" (V.ref ta) (putF "frames" (V.ref fa) (putF "rooms" (V.int rooms) [])))))).y (.ins (wK K) dx (putF "many" (V.int 0) (putF "marks" (V.ref ma) (putF "tops" (V.ref ta) (putF "frames" (V.ref fa) (putF "rooms" (V.int rooms) []))))))).y (.ins (wK K) dx (putF "made" (V.int 0) (putF "many" (V.int 0) (putF "marks" (V.ref ma) (putF "tops" (V.ref ta) (putF "frames" (V.ref fa) (putF "rooms" (V.int rooms) [])))))))
              have nfH : H fa = none := k1.free nf nfy
              have ntH : H ta = none := k3.free nt nty
              have nmH : H ma = none := k5.free nm nmy
              refine ky ⟨⟨a1, a2⟩, b1, b2⟩ (upd (upd (upd (upd (fun _ => none) fa (.dK [])) ta (.lst (List.replicate hands.toNat V.non))) ma (.dK [])) y (.ins (wK K) dx (wF (newW hands rooms) fa ta ma))) ⟨y, dx, fa, ta, ma, fun _ => 0, fun _ => 0, fun _ => 0⟩ _ rfl ⟨upd_same, ?_, ?_, ?_, fun r f e => by simp [newW, lk] at e, fun r f e => by simp [newW, lk] at e, fun r s f g e => by simp [newW, lk] at e, fun r s f g e => by simp [newW, lk] at e, fun r f e => by simp [newW, lk] at e, nmf.symm, fun r f e => by simp [newW, lk] at e⟩ (fun b o e => ?_) k9 (fun b hb => ?_)
              · rw [upd_ne nfy, upd_ne nmf.symm, upd_ne ntf.symm, upd_same]; rfl
              · rw [upd_ne nty, upd_ne nmt.symm, upd_same]
                show some (HO.lst (List.replicate hands.toNat V.non)) = some (.lst ((List.replicate hands.toNat (none : Option Int)).map oV))
                rw [List.map_replicate]; rfl
              · rw [upd_ne nmy, upd_same]; rfl
              · by_cases z1 : b = y
                · subst z1; rw [upd_same] at e ⊢; exact e
                · rw [upd_ne z1] at e
                  rw [upd_ne z1, upd_ne z1, upd_ne z1]
                  by_cases z2 : b = ma
                  · subst z2; rw [upd_same] at e ⊢; exact e
                  · rw [upd_ne z2] at e
                    rw [upd_ne z2, upd_ne z1]
                    by_cases z3 : b = ta
                    · subst z3; rw [upd_same] at e ⊢; exact e
                    · rw [upd_ne z3] at e
                      rw [upd_ne z3, upd_ne z1]
                      by_cases z4 : b = fa
                      · subst z4; rw [upd_same] at e ⊢; exact e
                      · rw [upd_ne z4] at e; cases e
              · by_cases z1 : b = y
                · exact .inl z1
                · rw [upd_ne z1] at hb
                  by_cases z2 : b = ma
                  · exact .inr (z2 ▸ nmH)
                  · rw [upd_ne z2] at hb
                    by_cases z3 : b = ta
                    · exact .inr (z3 ▸ ntH)
                    · rw [upd_ne z3] at hb
                      by_cases z4 : b = fa
                      · exact .inr (z4 ▸ nfH)
                      · rw [upd_ne z4] at hb; exact absurd rfl hb
          · rw [decide_eq_false b2]
            exact iteT (kn fun z => b2 z.2.2)
        · rw [decide_eq_false b1]
          exact iteF ⟨_, rfl, iteT (kn fun z => b1 z.2.1)⟩
      · rw [decide_eq_false a2]
        exact iteT (kn fun z => a2 z.1.2)
    · rw [decide_eq_false a1]
      exact iteF ⟨_, rfl, iteT (kn fun z => a1 z.1.1)⟩
/-- the values of the rooms of a pile, as new lists -/
theorem ll_step {H H1 : Hp} {D l : Addr} {zs : List (List Int)} {cs : List (Addr × List Int)} {z : List Int} (N : NewLL H H1 D zs cs) (nl : H1 l = none) : NewLL H (upd (upd H1 l (.lst (z.map V.int))) D (.lst (cs.map (fun c => V.ref c.1) ++ [V.ref l]))) D (zs ++ [z]) (cs ++ [(l, z)]) := by
  have nD : D ≠ l := ne_of_none N.ll.1 nl
  have nHl : H l = none := by
    cases e : H l with
    | none => rfl
    | some o => rw [N.same l o e] at nl; cases nl
  have nDc : ∀ c ∈ cs, c.1 ≠ D := fun c hc z => (List.nodup_cons.mp N.nd).1 (List.mem_map.mpr ⟨c, hc, z⟩)
  refine ⟨fun b o e => ?_, N.np, ⟨?_, fun c hc => ?_⟩, by rw [List.map_append, N.vals]; rfl, ?_, fun c hc => ?_⟩
  · rw [upd_ne (ne_of_none e N.np), upd_ne (ne_of_none e nHl)]; exact N.same b o e
  · rw [upd_same, List.map_append]; rfl
  · rcases List.mem_append.mp hc with q | q
    · rw [upd_ne (nDc c q), upd_ne (ne_of_none (N.ll.2 c q) nl)]; exact N.ll.2 c q
    · have : c = (l, z) := by simpa using q
      subst this
      rw [upd_ne nD.symm, upd_same]
  · rw [List.map_append]
    show ((D :: cs.map (·.1)) ++ [l]).Nodup
    rw [List.nodup_append]
    refine ⟨N.nd, by simp, fun a ha b hb e => ?_⟩
    have : b = l := by simpa using hb
    subst this; subst e
    rcases List.mem_cons.mp ha with q | q
    · exact nD q.symm
    · obtain ⟨c, hc, e⟩ := List.mem_map.mp q
      have := N.ll.2 c hc
      rw [e, nl] at this; cases this
  · rcases List.mem_append.mp hc with q | q
    · exact N.nc c q
    · have : c = (l, z) := by simpa using q
      subst this; exact nHl
theorem ll_start {H : Hp} {D : Addr} (n : H D = none) : NewLL H (upd H D (.lst [])) D [] [] :=
  ⟨same_new n _, n, ⟨upd_same, fun c hc => by simp at hc⟩, rfl, by simp, fun c hc => by simp at hc⟩
theorem NewLL.back {H0 H H1 : Hp} {p : Addr} {vs : List (List Int)} {cs : List (Addr × List Int)} (N : NewLL H H1 p vs cs) (s : Same H0 H) : NewLL H0 H1 p vs cs where
  same := s.trans N.same
  np := s.free N.np
  ll := N.ll
  vals := N.vals
  nd := N.nd
  nc := fun c hc => s.free (N.nc c hc)
theorem perm_sorted {a b : List Int} (h : a.Perm b) (ha : a.Pairwise (· ≤ ·)) (hb : b.Pairwise (· < ·)) : a = b := List.Perm.eq_of_pairwise (fun x y _ _ h1 h2 => Int.le_antisymm h1 h2) ha (hb.imp fun h => Int.le_of_lt h) h
theorem ok_Wood_places (T : Txt K mg) : FnOk P w K mg base CX0 1 (aW K "places") (fdOf K (aW K "places")) ["self"] (spPlaces K) := by
  refine T.F_Wood_places.ok sc_Wood_places (fun vs H Q E h => ?_) (fun cdv A outer s H vs Q E hr h => ?_)
  · obtain ⟨_, _, _, rfl, _⟩ := h; rfl
  · obtain ⟨A, x, W, rfl, ⟨s0, R, F⟩, hm, k⟩ := h
    refine ⟨_, PSs.nox (pss_one (ps_ret (pe_callB (call_sortedDA rfl) rfl T.n_sorted (by decide +kernel) (pa_cons (pe_fldK K rfl (pv 0) rfl) pa_nil)))), ?_⟩
    refine ⟨_, rfl, x.p, _, _, _, _, rfl, s0 _ _ R.ins, T.cl_Wood, T.a_marks, wf_marks, x.ma, _, ks W.marks, rfl, .inl (s0 _ _ R.mks), ?_, by simpa [ks] using hm, fun ys p hp hs np => ?_⟩
    · unfold mkV ks; rw [List.map_map, List.map_map]; rfl
    · rw [perm_sorted hp hs F.ms]
      exact k p np
theorem dp_ints {H : Hp} {p : Addr} {l : List Int} (h : H p = some (.lst (l.map V.int))) : Dp K H (.ref p) (.list (l.map PyData.int)) := by
  refine .lst (SqL.of h) ?_
  clear h
  induction l with
  | nil => exact .nil
  | cons a l ih => exact .cons (.int a) ih
theorem lay_ints (l : List Int) : PyData.canLayAll0 (l.map PyData.int) = true ∧ PyData.depthAll (l.map PyData.int) ≤ 1 := by
  induction l with
  | nil => exact ⟨by simp [PyData.canLayAll0], by simp [PyData.depthAll]⟩
  | cons a l ih => exact ⟨by simp [PyData.canLayAll0, PyData.canLay0, ih.1], by simp only [List.map_cons, PyData.depthAll, PyData.depth]; omega⟩
theorem shaped_ints (l : List Int) : SeqAt.shaped (.list (l.map PyData.int)) = true := by
  have := lay_ints l
  have e1 : (PyData.list (l.map PyData.int)).canLay0 = true := by simp only [PyData.canLay0]; exact this.1
  have e2 : (PyData.list (l.map PyData.int)).depth ≤ 64 := by
    have z : (PyData.list (l.map PyData.int)).depth = PyData.depthAll (l.map PyData.int) + 1 := by simp only [PyData.depth]
    omega
  exact Bool.and_eq_true_iff.mpr ⟨e1, decide_eq_true e2⟩
theorem eqv_ints_nil (l : List Int) : PyData.eqv (.list (l.map PyData.int)) (.list []) = l.isEmpty := by
  cases l <;> rfl
theorem taken {W : Wd} {h d : Int} {l : List Int} (d0 : 0 ≤ d) (dl : d < (l.length : Int)) : cutV (l.map V.int) none (some (d + 1)) = (l.take (d.toNat + 1)).map V.int := by
  unfold cutV
  rw [List.length_map]
  have e1 : HT.sIx l.length 0 none = 0 := HT.sIx_none _ _
  have e2 : HT.sIx l.length l.length (some (d + 1)) = d.toNat + 1 := by
    have : d + 1 = ((d.toNat + 1 : Nat) : Int) := by omega
    rw [this, HT.sIx_nat]; omega
  rw [e1, e2]
  simp [List.map_take]
theorem atI_int {l : List Int} {i : Nat} (h : i < l.length) : atI (l.map V.int) (i : Int) = some (V.int (l.getD i 0)) := by
  refine atI_nat ?_
  rw [List.getElem?_map, List.getD_eq_getElem?_getD, List.getElem?_eq_getElem h]; rfl
theorem ok_Wood_way (T : Txt K mg) : FnOk P w K mg base (L2.CX P w) 2 (aW K "way") (fdOf K (aW K "way")) ["self", "hand", "depth"] (spWay K) := by
  refine T.F_Wood_way.ok (CX := L2.CX P w) sc_Wood_way (fun vs H Q E h => ?_) (fun cdv A outer s H vs Q E hr h => ?_)
  · obtain ⟨_, _, _, _, _, rfl, _⟩ := h; rfl
  · obtain ⟨A, x, W, h, d, rfl, ⟨s0, R, F⟩, k⟩ := h
    refine ⟨_, (pss_cons (ps_expr (pe_meth (pv 0) T.cl_Wood T.m_need_hand (ok_Wood_need_hand T) (hr.mono (by decide)) T.b_Wood_need_hand .nil (passes_call (takes_of rfl rfl rfl rfl) (fun _ _ _ _ h => h)) (pa_cons (pv 1) pa_nil))) (pss_cons (ps_set (i := 3) sc_Wood_way.nd rfl (Or.inr rfl) (pe_meth (pv 0) T.cl_Wood T.m_path (ok_Wood_path T) (hr.mono (by decide)) T.b_Wood_path .nil pass0 (pa_cons (pe_ix (ix_listK K rfl) (pe_fldK K rfl (pv 0) rfl) (pv 1) (fun _ _ => rfl)) pa_nil))) (pss_cons (ps_if (pt_not (pt_chain op_le op_lt pe_int (pv 2) (pe_callB (call_lenK K rfl) rfl T.n_len PySem.boot_len (pa_cons (pv 3) pa_nil)))) (pss_one (ps_raise rfl (takes_of rfl rfl rfl rfl) (pmk_own PySem.F.excBase_ValueError T.x_NoCall.1 T.g_NoCall T.x_NoCall.2.1 (raises_own T.x_NoCall.2.2.1 T.x_NoCall.2.2.2) rfl))) pss_nil) (pss_cons (ps_set (i := 3) sc_Wood_way.nd rfl (Or.inr rfl) (pe_slice (sl_listK K rfl) (pv 3) po_none (po_some (pe_op op_add (pv 2) pe_int)))) (pss_cons (ps_setLc (i := 4) (own := [("at", 5)]) (g := gName 5) rfl sc_Wood_way.nd rfl rfl (sw_true rfl rfl rfl (by decide +kernel)) (pi_range1 rfl T.n_range (pa_cons (pe_op op_add (pv 2) pe_int) pa_nil)) (blkOk_by (own := [("at", 5)]) (N := ["self", "hand", "depth", "path", "shared", "at"]) (sc := (defScope s_Wood_way)) (by decide +kernel)) (fun _ _ _ _ _ => pg_name (i := 5) sc_Wood_way.nd rfl (Or.inl rfl)) (fun _ _ _ _ _ => by exact (pts_one (pt_cmpR op_gt (pe_fldK K rfl (pe_dget (hu_of hr) (pe_fldK K rfl (pv 0) rfl) (pe_ix (ix_listK K rfl) (pv 3) (pv 5) (fun _ _ => rfl)) (fun _ _ => rfl)) rfl) pe_int (nomark _)))) (fun _ _ _ _ _ => by exact (pv 5))) (pss_one (ps_ret (pe_tup (pa_cons (pv 3) (pa_cons (pe_ifExp (pt_cmpR (op_neDK K rfl hr.units) (pv 4) (pe_lst pa_nil) (nomark _)) (pe_ix (ix_listK K rfl) (pv 4) pe_int (fun _ _ => rfl)) pe_non) pa_nil)))))))))), ?_⟩
    unfold doWay at k
    have hp := s0 _ _ R.ins
    refine ⟨_, rfl, x.p, _, _, rfl, hp, wf_no (by decide +kernel), _, rfl, A, x, W, h, rfl, s0, R, fun hk => ?_, fun hk => ?_⟩
    · rw [if_neg (fun z => z hk)] at k
      have hl := F.tpath h
      generalize el : path W.frames (top W h) = l at hl k
      have hlen : l.length ≤ 40 := Nat.le_trans hl.len F.len
      refine ⟨_, rfl, x.p, _, _, rfl, hp, wf_no (by decide +kernel), _, rfl, x.p, _, _, _, _, rfl, hp, T.cl_Wood, T.a_tops, wf_tops, _, rfl, x.ta, _, _, _, rfl, rfl, SqL.of (s0 _ _ R.tps), atI_tops hk, A, x, W, top W h, l, rfl, s0, R, hl, by omega, fun q nq => ?_⟩
      have e1 := same_new nq (.lst (l.map V.int))
      refine ⟨_, rfl, _, _, rfl, rfl, _, rfl, ?_⟩
      by_cases d0 : 0 ≤ d
      · rw [decide_eq_true d0]
        refine iteT ⟨_, rfl, q, _, rfl, .inl (SqL.of upd_same), _, _, rfl, rfl, _, rfl, ?_⟩
        rw [List.length_map]
        by_cases dl : d < (l.length : Int)
        · rw [if_neg (fun z => z ⟨d0, dl⟩)] at k
          rw [decide_eq_true dl]
          refine iteF ⟨_, rfl, _, rfl, _, _, rfl, rfl, _, rfl, q, _, rfl, SqL.of upd_same, fun q2 nq2 => ?_⟩
          rw [taken (W := W) (h := h) d0 dl]
          generalize eq0 : l.take (d.toNat + 1) = qs at k
          have hql : qs.length = d.toNat + 1 := by rw [← eq0, List.length_take]; omega
          have hqin : ∀ r ∈ qs, ∃ f, lk W.frames r = some f := fun r hr => hl.in r (by rw [← eq0] at hr; exact List.mem_of_mem_take hr)
          have e2 := e1.trans (same_new nq2 (.lst (qs.map V.int)))
          refine ⟨_, rfl, _, _, rfl, rfl, d + 1, rfl, by omega, by omega, fun D nD => ?_⟩
          refine lc_range (lo := 0) (n := (d + 1).toNat) (fun i H' => H' = upd (upd (upd H q (.lst (l.map V.int))) q2 (.lst (qs.map V.int))) D (.lst (((List.range i).filter fun j => decide (1 < SW.nd W.frames (qs.getD j 0))).map fun (j : Nat) => V.int (j : Int)))) rfl ?_ ?_
          · rintro i H' hi rfl
            have e3 := e2.trans (same_new nD (.lst (((List.range i).filter fun j => decide (1 < SW.nd W.frames (qs.getD j 0))).map fun (j : Nat) => V.int (j : Int))))
            have up : ∀ {b : Addr} {o : HO}, A b = some o → upd (upd (upd H q (.lst (l.map V.int))) q2 (.lst (qs.map V.int))) D (.lst (((List.range i).filter fun j => decide (1 < SW.nd W.frames (qs.getD j 0))).map fun (j : Nat) => V.int (j : Int))) b = some o := fun {b o} e => e3 _ _ (s0 _ _ e)
            have hi2 : i < qs.length := by omega
            obtain ⟨f, e⟩ := hqin (qs.getD i 0) (by
              rw [List.getD_eq_getElem?_getD, List.getElem?_eq_getElem hi2]; exact List.getElem_mem hi2)
            have hix : atI (qs.map V.int) (0 + (i : Int)) = some (V.int (qs.getD i 0)) := by
              rw [Int.zero_add]; exact atI_int hi2
            refine ⟨rfl, _, rfl, x.p, _, _, _, _, rfl, up R.ins, T.cl_Wood, T.a_frames, wf_frames, _, rfl, _, rfl, q2, _, _, _, rfl, rfl, SqL.of ((upd_ne (ne_of_none upd_same nD)).trans upd_same), hix, x.fa, _, rfl, get_fr (up R.frs) e, x.fo (qs.getD i 0), _, _, _, _, rfl, up (R.fr _ f e), T.cl_Frame, T.a_needs, ff_needs, _, _, rfl, rfl, _, rfl, ?_⟩
            have len : (((List.range i).filter fun j => decide (1 < SW.nd W.frames (qs.getD j 0))).map fun (j : Nat) => V.int (j : Int)).length ≤ 100 := by
              rw [List.length_map]
              refine Nat.le_trans (List.length_filter_le _ _) ?_
              rw [List.length_range]; omega
            rw [List.range_succ, List.filter_append, List.map_append]
            have en : SW.nd W.frames (qs.getD i 0) = f.needs := nd_of e
            by_cases g : 1 < f.needs
            · rw [decide_eq_true g]
              refine iteT ⟨_, rfl, _, upd_same, szl (by omega), ?_⟩
              have ef : ([i].filter fun j => decide (1 < SW.nd W.frames (qs.getD j 0))) = [i] := by
                rw [List.filter_cons_of_pos (by rw [en]; exact decide_eq_true g)]; rfl
              rw [upd_upd, Int.zero_add, ef]; rfl
            · rw [decide_eq_false g]
              refine iteF ?_
              have ef : ([i].filter fun j => decide (1 < SW.nd W.frames (qs.getD j 0))) = [] := by
                rw [List.filter_cons_of_neg (by rw [en]; simpa using g)]; rfl
              rw [ef, List.map_nil, List.append_nil]
          · rintro H' rfl
            have en : (d + 1).toNat = qs.length := by omega
            rw [en]
            have esh : ((List.range qs.length).filter fun j => decide (1 < SW.nd W.frames (qs.getD j 0))) = sh W.frames qs := rfl
            rw [esh]
            have hD : ((sh W.frames qs).map fun (j : Nat) => V.int (j : Int)) = (((sh W.frames qs).map fun (j : Nat) => (j : Int))).map V.int := by rw [List.map_map]; rfl
            rw [hD]
            have nq2D : q2 ≠ D := ne_of_none upd_same nD
            refine ⟨_, rfl, _, rfl, Nat.zero_le _, fun z nz => ?_⟩
            have hDz : upd (upd (upd (upd H q (.lst (l.map V.int))) q2 (.lst (qs.map V.int))) D (.lst ((((sh W.frames qs).map fun (j : Nat) => (j : Int))).map V.int))) z (.lst []) D = some (.lst ((((sh W.frames qs).map fun (j : Nat) => (j : Int))).map V.int)) := (upd_ne (ne_of_none upd_same nz)).trans upd_same
            refine ⟨_, _, dp_ints hDz, .lst (SqL.of upd_same) .nil, shaped_ints _, by decide +kernel, _, rfl, ?_⟩
            rw [eqv_ints_nil]
            have e4 := (e2.trans (same_new nD (.lst ((((sh W.frames qs).map fun (j : Nat) => (j : Int))).map V.int)))).trans (same_new nz (.lst []))
            have hq2 : upd (upd (upd (upd H q (.lst (l.map V.int))) q2 (.lst (qs.map V.int))) D (.lst ((((sh W.frames qs).map fun (j : Nat) => (j : Int))).map V.int))) z (.lst []) q2 = some (.lst (qs.map V.int)) := by
              rw [upd_ne (ne_of_none ((upd_ne nq2D).trans upd_same) nz), upd_ne nq2D, upd_same]
            cases esh2 : sh W.frames qs with
            | nil =>
              rw [esh2] at k e4 hq2 hDz
              refine iteF ⟨by show 2 ≤ sizeLine; exact sz (by omega), fun t nt => ?_⟩
              exact k _ t q2 (e4.trans (same_new nt _)) (e1.free nq2) upd_same ((upd_ne (ne_of_none hq2 nt)).trans hq2)
            | cons a rest =>
              rw [esh2] at k e4 hq2 hDz
              refine iteT ⟨_, rfl, D, _, 0, V.int (a : Int), rfl, rfl, SqL.of hDz, atI_nat (j := 0) rfl, by show 2 ≤ sizeLine; exact sz (by omega), fun t nt => ?_⟩
              exact k _ t q2 (e4.trans (same_new nt _)) (e1.free nq2) upd_same ((upd_ne (ne_of_none hq2 nt)).trans hq2)
        · rw [if_pos (fun z => dl z.2)] at k
          rw [decide_eq_false dl]
          exact iteT (k _ e1)
      · rw [if_pos (fun z => d0 z.1)] at k
        rw [decide_eq_false d0]
        exact iteF ⟨_, rfl, iteT (k _ e1)⟩
    · rw [if_pos hk] at k
      exact k _ (Same.refl _)
end
end Sk
end
section
/-! SwM4: put, and its copies. -/
namespace Sk
open PySem PySem.Spec PyProof.Rows L2 SW
/-- over a list backwards -/
theorem for_rev {K : PySem.W.Frag} {a : Addr} {xs : List V} {g : TG} {tb : TS} {D : Ends} {σ : L2.St} {H : Hp} (Pv : Nat → L2.St → Hp → Prop) (h0 : Pv 0 σ H) (hl : ∀ i σ H, i < xs.length → Pv i σ H → SqL K H a xs)
    (hs : ∀ i x σ H, xs.reverse[i]? = some x → Pv i σ H → g x σ H fun σ2 H2 => tb { D with nx := Pv (i + 1), ct := Pv (i + 1), bk := D.nx } σ2 H2) (hd : ∀ σ H, Pv xs.length σ H → D.nx σ H) :
    ∃ W : Nat → Nat → L2.St → Hp → Prop, (∃ m, W 0 m σ H) ∧ ∀ i m σ H, W i m σ H →
      ((Itv K a xs.length).stop i H ∧ D.nx σ H) ∨ ((Itv K a xs.length).go i H ∧ ∃ N : L2.St → Hp → Prop, (∀ σ' H', N σ' H' → ∃ m', m' < m ∧ W (i + 1) m' σ' H') ∧ ∀ x H', (Itv K a xs.length).yld i H x H' → g x σ H' fun σ2 H2 => tb { D with nx := N, ct := N, bk := D.nx } σ2 H2) := by
  refine ⟨fun i m σ H => m = xs.length - i ∧ i ≤ xs.length ∧ Pv i σ H, ⟨_, rfl, Nat.zero_le _, h0⟩, ?_⟩
  rintro i m σ H ⟨rfl, hi, p⟩
  by_cases hlt : i < xs.length
  · have q := hl i σ H hlt p
    have hx : xs[xs.length - 1 - i]? = some (xs[xs.length - 1 - i]'(by omega)) := List.getElem?_eq_getElem (by omega)
    refine .inr ⟨⟨hlt, xs, _, q, hx⟩, Pv (i + 1), fun σ' H' p' => ⟨xs.length - (i + 1), by omega, rfl, hlt, p'⟩, fun x H' y => ?_⟩
    obtain ⟨e, y⟩ := y
    subst e
    exact hs i x σ _ (by rw [List.getElem?_reverse hlt]; exact y xs q) p
  · have e : i = xs.length := by omega
    subst e
    exact .inl ⟨Nat.le_refl _, hd σ H p⟩
theorem atI_back {l : List Int} (h : 0 < l.length) : atI (l.map V.int) (-1) = some (V.int (l.getD (l.length - 1) 0)) := by
  unfold atI ixN
  rw [List.length_map, if_neg (by decide), if_pos (by omega)]
  show (l.map V.int)[(-1 + (l.length : Int)).toNat]? = _
  have : (-1 + (l.length : Int)).toNat = l.length - 1 := by omega
  rw [this, List.getElem?_map, List.getD_eq_getElem?_getD, List.getElem?_eq_getElem (by omega)]; rfl
theorem dropped {l : List Int} {i : Nat} (h : i ≤ l.length) : cutV (l.map V.int) (some (i : Int)) none = (l.drop i).map V.int := by
  unfold cutV
  rw [List.length_map]
  have e1 : HT.sIx l.length l.length none = l.length := HT.sIx_none _ _
  have e2 : HT.sIx l.length 0 (some (i : Int)) = i := by rw [HT.sIx_nat]; omega
  rw [e1, e2, List.take_of_length_le (by rw [List.length_drop, List.length_map]; exact Nat.le_refl _), List.map_drop]
section
variable (K : PySem.W.Frag)
def spCopied : Sp := fun vs H Q _ => ∃ (A : Hp) (x : Ad) (W : Wd) (h : Int) (s : Addr) (q : List Int) (i d : Nat), vs = [.ref x.p, .int h, .ref s, .int (i : Int)] ∧ At K A H x W ∧ hOk W h ∧ H s = some (.lst (q.map V.int)) ∧ A s = none ∧
  d < (path W.frames (top W h)).length ∧ (path W.frames (top W h)).take (d + 1) = q ∧ (sh W.frames q).head? = some i ∧ (W.frames.length : Int) + ((d : Int) - i + 1) ≤ W.rooms ∧
  ∀ A' x' H', x'.p = x.p → WA K A' x' (copied W h q i).2 → Stp A H A' H' → Q (.int (copied W h q i).1) H'
def spPut : Sp := fun vs H Q E => ∃ (A : Hp) (x : Ad) (W : Wd) (h d s v : Int), vs = [.ref x.p, .int h, .int d, .int s, .int v] ∧ At K A H x W ∧
  match doPut W h d s v with
  | .error e => Ref K H E e
  | .ok (n, W') => Then K A H x W' (Q (.int n))
end
theorem stp_keep {A H A' H' : Hp} (S : Stp A H A' H') (hs : Sub A H) {a : Addr} {o : HO} (h : H a = some o) (n : A a = none) : H' a = some o ∧ A' a = none := by
  refine ⟨S.oth a o h n, ?_⟩
  cases e : A' a with
  | none => rfl
  | some u =>
    have := S.new a n (by rw [e]; simp)
    rw [h] at this; cases this
theorem Stp.free0' {A H A' H' : Hp} (_ : Stp A H A' H') {a : Addr} (h : H a = none) (hs : Sub A H) : A a = none := by
  cases e : A a with
  | none => rfl
  | some u => rw [hs a u e] at h; cases h
section
variable {P : Program} {w : World} {K : PySem.W.Frag} {mg : Str → Option Value} {base : Heap}
theorem ok_Wood_copied (T : Txt K mg) : FnOk P w K mg base CX0 3 (aW K "copied") (fdOf K (aW K "copied")) ["self", "hand", "path", "first"] (spCopied K) := by
  refine T.F_Wood_copied.ok sc_Wood_copied (fun vs H Q E h => ?_) (fun cdv A outer s H vs Q E hr h => ?_)
  · obtain ⟨_, _, _, _, _, _, _, _, rfl, _⟩ := h; rfl
  · obtain ⟨A, x, W, h, s1, q, i, d, rfl, ⟨s0, R, F⟩, hk, hs1, ns1, hd, eq0, hsh, room, k⟩ := h
    refine ⟨_, PSs.nox (pss_cons (ps_set (i := 4) sc_Wood_copied.nd rfl (Or.inl rfl) (pe_fldK K rfl (pe_dget (hu_of hr) (pe_fldK K rfl (pv 0) rfl) (pe_ix (ix_listK K rfl) (pv 2) (pe_un un_neg pe_int) (fun _ _ => rfl)) (fun _ _ => rfl)) rfl)) (pss_cons (ps_expr (pe_meth (pv 0) T.cl_Wood T.m_want (ok_Wood_want T) (hr.mono (by decide)) T.b_Wood_want .nil pass0 (pa_cons (pv 4) pa_nil))) (pss_cons (ps_set (i := 5) sc_Wood_copied.nd rfl (Or.inl rfl) (pe_lst pa_nil)) (pss_cons (ps_for PassesOwn.never rfl (pi_reversed rfl T.n_reversed (pa_cons (pe_slice (sl_listK K rfl) (pv 2) (po_some (pv 3)) po_none) pa_nil)) (pg_name (i := 6) sc_Wood_copied.nd rfl (Or.inl rfl)) (pss_cons (ps_set (i := 7) sc_Wood_copied.nd rfl (Or.inl rfl) (pe_meth0 (pv 0) T.cl_Wood T.m_new_room (ok_Wood_new_room T) (hr.mono (by decide)) T.b_Wood_new_room .nil pass0)) (pss_cons (ps_dput (hu_of hr) (pe_fldK K rfl (pv 0) rfl) (pv 7) (pe_make T.mk_Frame (ok_Frame_init T) (hr.mono (by decide)) rfl T.g_Frame T.b_Frame_init .nil pass0 (pa_cons (pv 4) (pa_cons (pe_fldK K rfl (pe_dget (hu_of hr) (pe_fldK K rfl (pv 0) rfl) (pv 6) (fun _ _ => rfl)) rfl) pa_nil))) rfl) (pss_cons (ps_expr (pe_bm PySem.F.plainAttrs_list PySem.F.slot_list_append PySem.F.type_list_append mt_append (pv 5) (pa_cons (pv 7) pa_nil))) (pss_one (ps_set (i := 4) sc_Wood_copied.nd rfl (Or.inl rfl) (pv 7))))))) (pss_cons (ps_fld (pv 0) (pe_op op_add (pe_fldK K rfl (pv 0) rfl) (pe_callB (call_lenK K rfl) rfl T.n_len PySem.boot_len (pa_cons (pv 5) pa_nil))) rfl) (pss_cons (ps_expr (pe_meth (pv 0) T.cl_Wood T.m_leave (ok_Wood_leave T) (hr.mono (by decide)) T.b_Wood_leave .nil pass0 (pa_cons (pe_ix (ix_listK K rfl) (pv 2) (pv 3) (fun _ _ => rfl)) pa_nil))) (pss_cons (ps_if (pt_cmpR op_eq (pv 3) pe_int (nomark _)) (pss_one (ps_asg (pv 4) (pg_sub (pe_fldK K rfl (pv 0) rfl) (pv 1) set_list))) (pss_one (ps_fld (pe_dget (hu_of hr) (pe_fldK K rfl (pv 0) rfl) (pe_ix (ix_listK K rfl) (pv 2) (pe_op op_sub (pv 3) pe_int) (fun _ _ => rfl)) (fun _ _ => rfl)) (pv 4) rfl))) (pss_one (ps_ret (pe_ix (ix_listK K rfl) (pv 5) pe_int (fun _ _ => rfl))))))))))), ?_⟩
    have hp := s0 _ _ R.ins
    obtain ⟨b, ⟨ebl, ⟨fd, hfd, hfb⟩, hbin, cop, croom, cold, ⟨gi, hgi, ngi⟩, cup⟩⟩ := copyF F rfl hd eq0 hsh room
    obtain ⟨si, _, _⟩ := sh_some hsh
    have hq0 : 0 < q.length := by omega
    have pl : (path W.frames (top W h)).length ≤ 40 := Nat.le_trans (F.tpath h).len F.len
    have hq40 : q.length ≤ 40 := by rw [← eq0, List.length_take]; omega
    have hfr := s0 _ _ (R.fr _ fd hfd)
    -- below, want
    refine ⟨_, rfl, x.p, _, _, _, _, rfl, hp, T.cl_Wood, T.a_frames, wf_frames, _, rfl, _, rfl, s1, _, _, _, rfl, rfl, SqL.of hs1, atI_back hq0, x.fa, _, rfl, get_fr (s0 _ _ R.frs) hfd, x.fo _, _, _, _, _, rfl, hfr, T.cl_Frame, T.a_below, ff_below, ?_⟩
    rw [hfb]
    refine ⟨_, rfl, x.p, _, _, rfl, hp, wf_no (by decide +kernel), _, rfl, A, x, W, b, rfl, s0, R, hbin, fun A1 H1 R1 S1 => ?_⟩
    obtain ⟨hs1a, ns1a⟩ := stp_keep S1 s0 hs1 ns1
    refine ⟨Nat.zero_le _, fun lr nlr => ?_⟩
    have S2 : Stp A H A1 (upd H1 lr (.lst [])) := S1.gar nlr _
    have nlrA := S1.free nlr
    have hs1b : upd H1 lr (.lst []) s1 = some (.lst (q.map V.int)) := (upd_ne (ne_of_none hs1a nlr)).trans hs1a
    refine ⟨_, rfl, _, rfl, _, rfl, s1, _, rfl, SqL.of hs1b, fun s2 ns2 => ?_⟩
    rw [show cutV (q.map V.int) (some (i : Int)) none = (q.drop i).map V.int from dropped (by omega)]
    have S3 : Stp A H A1 (upd (upd H1 lr (.lst [])) s2 (.lst ((q.drop i).map V.int))) := S2.gar ns2 _
    have ns2A := S2.free ns2
    have n12 : lr ≠ s2 := ne_of_none upd_same ns2
    refine ⟨s2, _, rfl, SqL.of upd_same, ?_⟩
    refine for_rev (K := K) (a := s2) (xs := (q.drop i).map V.int) (fun j σ H' => ∃ (A' : Hp) (x' : Ad) (v6 v7 : Option V), σ = [some (.ref x.p), some (.int h), some (.ref s1), some (.int (i : Int)), some (oV (copyL W.rooms (wantF W.frames b) b ((q.drop i).reverse.take j)).2.1), some (.ref lr), v6, v7] ∧ x'.p = x.p ∧
      WA K A' x' { W with frames := (copyL W.rooms (wantF W.frames b) b ((q.drop i).reverse.take j)).1 } ∧ Stp A H A' H' ∧ H' lr = some (.lst ((copyL W.rooms (wantF W.frames b) b ((q.drop i).reverse.take j)).2.2.map V.int)) ∧ A' lr = none ∧ H' s1 = some (.lst (q.map V.int)) ∧ A' s1 = none ∧ H' s2 = some (.lst ((q.drop i).map V.int)) ∧ A' s2 = none)
      ⟨A1, x, none, none, rfl, rfl, R1, S3, (upd_ne n12).trans upd_same, nlrA, (upd_ne (ne_of_none hs1b ns2)).trans hs1b, ns1a, upd_same, ns2A⟩ (fun j σ H' _ ⟨A', x', v6, v7, _, _, _, _, _, _, _, _, h2, _⟩ => SqL.of h2) ?_ ?_
    · rintro j v σ H' hj ⟨A', x', v6, v7, rfl, hxp, R', S', hlr, nlr', hs', ns', h2, n2⟩
      obtain ⟨o, ho, rfl⟩ : ∃ o, (q.drop i).reverse[j]? = some o ∧ v = V.int o := by
        rw [← List.map_reverse, List.getElem?_map] at hj
        cases e : (q.drop i).reverse[j]? with
        | none => rw [e] at hj; cases hj
        | some r => rw [e] at hj; exact ⟨r, rfl, (Option.some.inj hj).symm⟩
      have jl : j < (q.drop i).reverse.length := (List.getElem?_eq_some_iff.mp ho).1
      have esn : (q.drop i).reverse.take (j + 1) = (q.drop i).reverse.take j ++ [o] := take_snoc ho
      have ecs := copyL_snoc W.rooms o ((q.drop i).reverse.take j) (wantF W.frames b) b
      rw [← esn] at ecs
      have C := cop j
      have rm := croom j jl
      obtain ⟨fo, hfo⟩ := cold j o ho
      have clen := C.len
      rw [List.length_take] at clen
      generalize copyL W.rooms (wantF W.frames b) b ((q.drop i).reverse.take j) = t at R' hlr ecs C rm hfo clen
      obtain ⟨fs, bb, rs⟩ := t
      simp only at R' hlr ecs C rm hfo clen
      have rng : ∀ r ∈ ks fs, 1 ≤ r ∧ r ≤ W.rooms := fun r hr => by
        have := C.keys
        simp only at this
        rw [this, ks_want] at hr
        rcases List.mem_append.mp hr with z | z
        · exact F.rng r z
        · exact C.rng r z
      have nin := newRoom_in C.wf.nd rng rm
      obtain ⟨_, nn⟩ := mem_freeR.mp nin
      have fl : fs.length ≤ 40 := by have := F.r40; omega
      have hp' := S'.own _ _ R'.ins
      rw [hxp] at hp'
      -- room = self.new_room()
      refine ⟨_, rfl, x.p, _, _, rfl, hp', wf_no (by decide +kernel), A', x', { W with frames := fs }, by rw [hxp]; rfl, S'.own, R', F.r40, nin, fun H2 e2 => ?_⟩
      generalize newRoom W.rooms fs = r at nn ecs nin
      have S4 := S'.same e2
      have hp2 := S4.own _ _ R'.ins
      rw [hxp] at hp2
      have hfr2 := S4.own _ _ (R'.fr o fo hfo)
      -- Frame(below, self.frames[old].slots)
      refine ⟨_, rfl, _, rfl, x.p, _, _, _, _, rfl, hp2, T.cl_Wood, T.a_frames, wf_frames, _, rfl, x'.fa, _, rfl, get_fr (S4.own _ _ R'.frs) hfo, x'.fo o, _, _, _, _, rfl, hfr2, T.cl_Frame, T.a_slots, ff_slots, fun y dx ny nd ne => ?_⟩
      have hsl : SqL K (upd (upd H2 dx (.own y)) y (.ins (fK K) dx [])) (x'.so o) (fo.slots.map V.int) := by
        have := S4.own _ _ (R'.sl o fo hfo)
        exact SqL.of ((upd_ne (ne_of_none this ny)).trans ((upd_ne (ne_of_none this nd)).trans this))
      refine ⟨y, dx, x'.so o, bb, fo.slots, rfl, upd_same, hsl, fun l nl => ⟨rfl, ?_⟩⟩
      have nly : y ≠ l := fun z => by rw [← z, upd_same] at nl; cases nl
      have nld : dx ≠ l := fun z => by rw [← z, upd_ne ne, upd_same] at nl; cases nl
      have nl1 : H2 l = none := by rw [upd_ne nly.symm, upd_ne nld.symm] at nl; exact nl
      rw [upd_back nly]
      have S5 : Stp A H A' (upd H2 dx (.own y)) := S4.gar nd _
      have S6 := S5.new' (a := l) (by rw [upd_ne nld.symm]; exact nl1) (.lst (fo.slots.map V.int))
      have S7 := S6.new' (a := y) (by rw [upd_ne nly, upd_ne ne.symm]; exact ny) (.ins (fK K) dx (fF ⟨bb, fo.slots, 1⟩ l))
      have nyA := S4.free ny
      have nlA := S4.free nl1
      have R4 := R'.newFr nn nyA nlA nly.symm ⟨bb, fo.slots, 1⟩ (d := dx)
      have old : ∀ {c : Addr} {u : HO}, A' c = some u → upd (upd A' l (.lst (fo.slots.map V.int))) y (.ins (fK K) dx (fF ⟨bb, fo.slots, 1⟩ l)) c = some u := fun {c u} e => by
        rw [upd_ne (ne_of_none e nyA), upd_ne (ne_of_none e nlA)]; exact e
      have oldH : ∀ {c : Addr} {u : HO}, H2 c = some u → upd (upd (upd H2 dx (.own y)) l (.lst (fo.slots.map V.int))) y (.ins (fK K) dx (fF ⟨bb, fo.slots, 1⟩ l)) c = some u := fun {c u} e => by
        rw [upd_ne (ne_of_none e ny), upd_ne (ne_of_none e nl1), upd_ne (ne_of_none e nd)]; exact e
      have hp4 := S7.own _ _ (old R'.ins)
      rw [hxp] at hp4
      refine ⟨_, rfl, x.p, _, _, _, _, rfl, hp4, T.cl_Wood, T.a_frames, wf_frames, _, rfl, x'.fa, _, rfl, DPut.k (k := Sum.inl r) (S7.own _ _ (old R'.frs)) (szl (by rw [frV_len]; show fs.length ≤ 100000; omega)), ?_⟩
      rw [show putK (frV x'.fo fs) (Sum.inl r) (V.ref y) = _ from putK_fr y ⟨bb, fo.slots, 1⟩ nn]
      have S8 := S7.upd (old R'.frs) (.dK (frV (fun k => if k = r then y else x'.fo k) (pt fs r ⟨bb, fo.slots, 1⟩)))
      have keep8 : ∀ {c : Addr} {u : HO}, H' c = some u → A' c = none → upd (upd (upd (upd H2 dx (.own y)) l (.lst (fo.slots.map V.int))) y (.ins (fK K) dx (fF ⟨bb, fo.slots, 1⟩ l))) x'.fa (.dK (frV (fun k => if k = r then y else x'.fo k) (pt fs r ⟨bb, fo.slots, 1⟩))) c = some u := fun {c u} e n => by
        rw [upd_ne (fun z => by rw [z, R'.frs] at n; cases n)]
        exact oldH (e2 _ _ e)
      have freeA : ∀ {c : Addr} {u : HO}, H' c = some u → A' c = none → upd (upd (upd A' l (.lst (fo.slots.map V.int))) y (.ins (fK K) dx (fF ⟨bb, fo.slots, 1⟩ l))) x'.fa (.dK (frV (fun k => if k = r then y else x'.fo k) (pt fs r ⟨bb, fo.slots, 1⟩))) c = none := fun {c u} e n => by
        rw [upd_ne (fun z => by rw [z, R'.frs] at n; cases n), upd_ne (ne_of_none (e2 _ _ e) ny), upd_ne (ne_of_none (e2 _ _ e) nl1)]; exact n
      have hlr8 := keep8 hlr nlr'
      -- rooms.append(room); below = room
      refine ⟨_, rfl, .inl ⟨rfl, _, SqL.of hlr8⟩, _, rfl, lr, _, _, rfl, rfl, hlr8, szl (by rw [List.length_map, clen]; rw [List.length_reverse, List.length_drop]; omega), ?_⟩
      have nlr8 := freeA hlr nlr'
      refine ⟨_, rfl, ?_⟩
      have esl : sl fs o = fo.slots := sl_of hfo
      rw [esl] at ecs
      rw [ecs]
      refine ⟨_, { x' with fo := fun k => if k = r then y else x'.fo k, so := fun k => if k = r then l else x'.so k, fd := fun k => if k = r then dx else x'.fd k }, _, _, rfl, hxp, R4, ?_, ?_, nlr8, ?_, freeA hs' ns', ?_, freeA h2 n2⟩
      · refine ⟨fun c u e => ?_, fun c u e n => ?_, S8.new⟩
        · rw [upd_ne (fun z => by rw [z, nlr8] at e; cases e)]; exact S8.own c u e
        · rw [upd_ne (fun z => by
            rw [z] at e n
            have := S2.oth
            have z1 := S1.oth lr u e n
            rw [nlr] at z1; cases z1)]
          exact S8.oth c u e n
      · rw [upd_same]
        show _ = some (HO.lst ((rs ++ [r]).map V.int))
        rw [List.map_append]; rfl
      · rw [upd_ne (ne_of_none hs1a nlr)]; exact keep8 hs' ns'
      · rw [upd_ne n12.symm]; exact keep8 h2 n2
    · rintro σ H' ⟨A', x', v6, v7, rfl, hxp, R', S', hlr, nlr', hs', ns', h2, n2⟩
      have full : (q.drop i).reverse.take ((q.drop i).map V.int).length = (q.drop i).reverse := by
        rw [List.take_of_length_le (by rw [List.length_reverse, List.length_map]; exact Nat.le_refl _)]
      rw [full] at R' hlr ⊢
      have Cf := cop (q.drop i).reverse.length
      rw [List.take_length] at Cf
      have clen := Cf.len
      unfold copied at k
      simp only [ebl] at k
      generalize et : copyL W.rooms (wantF W.frames b) b (q.drop i).reverse = t at R' hlr k hgi cup Cf clen
      obtain ⟨fs, bb, rs⟩ := t
      simp only at R' hlr k hgi cup Cf clen
      rw [List.length_reverse, List.length_drop] at clen
      have hp' := S'.own _ _ R'.ins
      rw [hxp] at hp'
      -- self.made
      refine ⟨_, rfl, x.p, _, _, _, _, rfl, hp', T.cl_Wood, T.a_made, wf_made, _, rfl, lr, _, rfl, .inl (SqL.of hlr), _, _, rfl, rfl, _, rfl, x.p, _, _, _, rfl, hp', T.cl_Wood, T.a_made, by show 6 < 1000; decide, ?_⟩
      rw [List.length_map]
      have R5 := R'.setNums W.many (W.made + (rs.length : Int))
      have S5 := S'.upd R'.ins (.ins (wK K) x'.dx (wF { W with frames := fs, made := W.made + (rs.length : Int) } x'.fa x'.ta x'.ma))
      rw [hxp] at R5 S5
      have nlr5 : upd A' x.p (.ins (wK K) x'.dx (wF { W with frames := fs, made := W.made + (rs.length : Int) } x'.fa x'.ta x'.ma)) lr = none := by
        rw [upd_ne (fun z => by rw [z, ← hxp, R'.ins] at nlr'; cases nlr')]; exact nlr'
      have hlr5 : upd H' x.p (.ins (wK K) x'.dx (wF { W with frames := fs, made := W.made + (rs.length : Int) } x'.fa x'.ta x'.ma)) lr = some (.lst (rs.map V.int)) := by
        rw [upd_ne (ne_of hlr hp' (by intro z; cases z))]; exact hlr
      have hs5 : upd H' x.p (.ins (wK K) x'.dx (wF { W with frames := fs, made := W.made + (rs.length : Int) } x'.fa x'.ta x'.ma)) s1 = some (.lst (q.map V.int)) := by
        rw [upd_ne (ne_of hs' hp' (by intro z; cases z))]; exact hs'
      have ns5 : upd A' x.p (.ins (wK K) x'.dx (wF { W with frames := fs, made := W.made + (rs.length : Int) } x'.fa x'.ta x'.ma)) s1 = none := by
        rw [upd_ne (fun z => by rw [z, ← hxp, R'.ins] at ns'; cases ns')]; exact ns'
      have hp5 := S5.own _ _ R5.ins
      rw [hxp] at hp5
      -- self.leave(path[first])
      have lv : Leave fs (some (q.getD i 0)) (leave fs (some (q.getD i 0))) := by
        rw [leave_more hgi ngi]; exact .stop hgi (by omega)
      refine ⟨_, rfl, x.p, _, _, rfl, hp5, wf_no (by decide +kernel), _, rfl, _, rfl, s1, _, (i : Int), _, rfl, rfl, SqL.of hs5, atI_int si, _, x', { W with frames := fs, made := W.made + (rs.length : Int) }, some (q.getD i 0), _, by rw [hxp]; rfl, S5.own, R5, lv, Cf.wf.nd, fun A6 H6 R6 S6 => ?_⟩
      have S7 := S5.trans S6
      obtain ⟨hlr6, nlr6⟩ := stp_keep S6 S5.own hlr5 nlr5
      obtain ⟨hs6, ns6⟩ := stp_keep S6 S5.own hs5 ns5
      have hp6 := S7.own _ _ R6.ins
      rw [hxp] at hp6
      refine ⟨_, rfl, rfl, _, rfl, ?_⟩
      have hr0 : atI (rs.map V.int) 0 = some (V.int (rs.headD 0)) := by
        refine atI_nat (j := 0) ?_
        cases rs with
        | nil => exfalso; simp at clen; omega
        | cons a t => rfl
      by_cases i0 : i = 0
      · subst i0
        simp only [if_true] at k
        refine iteT ?_
        refine ⟨_, rfl, _, rfl, x.p, _, _, _, _, rfl, hp6, T.cl_Wood, T.a_tops, wf_tops, _, rfl, x'.ta, _, h, h.toNat, rfl, rfl, S7.own _ _ R6.tps, by rw [List.length_map]; exact ixN_ok hk.1 hk.2, ?_⟩
        have e : ((W.tops.map oV).set h.toNat (oV bb)) = (W.tops.set h.toNat bb).map oV := by rw [List.map_set]
        rw [show ((W.tops.map oV).set h.toNat (oV bb)) = (W.tops.set h.toNat bb).map oV from e]
        have hlr7 : upd H6 x'.ta (.lst ((W.tops.set h.toNat bb).map oV)) lr = some (.lst (rs.map V.int)) := by
          rw [upd_ne (fun z => by rw [z, R6.tps] at nlr6; cases nlr6)]; exact hlr6
        exact ⟨_, rfl, lr, _, 0, _, rfl, rfl, SqL.of hlr7, hr0, k _ x' _ hxp (R6.setTops (W.tops.set h.toNat bb)) (S7.upd R6.tps _)⟩
      · rw [if_neg i0] at k
        rw [decide_eq_false (show ¬ V.int (i : Int) = V.int 0 by intro z; injection z with z; omega)]
        refine iteF ?_
        obtain ⟨gp, hgp⟩ := cup i0
        have ei : (i : Int) - 1 = ((i - 1 : Nat) : Int) := by omega
        have hfr6 := S7.own _ _ (R6.fr _ gp hgp)
        refine ⟨_, rfl, _, rfl, x.p, _, _, _, _, rfl, hp6, T.cl_Wood, T.a_frames, wf_frames, _, rfl, _, rfl, _, _, rfl, rfl, s1, _, (i : Int) - 1, V.int (q.getD (i - 1) 0), rfl, rfl, SqL.of hs6, by rw [ei]; exact atI_int (by omega), x'.fa, _, rfl, get_fr (S7.own _ _ R6.frs) hgp, x'.fo _, _, _, _, rfl, hfr6, T.cl_Frame, T.a_below, by show 3 < 1000; decide, ?_⟩
        have R8 := R6.setFr hgp bb gp.needs
        have S8 := S7.upd (R6.fr _ gp hgp) (.ins (fK K) (x'.fd (q.getD (i - 1) 0)) (fF { gp with below := bb } (x'.so (q.getD (i - 1) 0))))
        have esb : setBelow (leave fs (some (q.getD i 0))) (q.getD (i - 1) 0) bb = pt (leave fs (some (q.getD i 0))) (q.getD (i - 1) 0) { gp with below := bb } := by
          unfold setBelow; rw [hgp]
        rw [esb] at k
        have hlr8 : upd H6 (x'.fo (q.getD (i - 1) 0)) (.ins (fK K) (x'.fd (q.getD (i - 1) 0)) (fF { gp with below := bb } (x'.so (q.getD (i - 1) 0)))) lr = some (.lst (rs.map V.int)) := by
          rw [upd_ne (fun z => by rw [z, R6.fr _ gp hgp] at nlr6; cases nlr6)]; exact hlr6
        exact ⟨_, rfl, lr, _, 0, _, rfl, rfl, SqL.of hlr8, hr0, k _ x' _ hxp R8 S8⟩
theorem atI_pos {l : List Int} {d : Int} (h0 : 0 ≤ d) (h : d < (l.length : Int)) : atI (l.map V.int) d = some (V.int (l.getD d.toNat 0)) := by
  have : d = ((d.toNat : Nat) : Int) := by omega
  rw [this]
  exact atI_int (by omega)
theorem ok_Wood_put (T : Txt K mg) : FnOk P w K mg base (L2.CX P w) 4 (aW K "put") (fdOf K (aW K "put")) ["self", "hand", "depth", "slot", "value"] (spPut K) := by
  refine T.F_Wood_put.ok (CX := L2.CX P w) sc_Wood_put (fun vs H Q E h => ?_) (fun cdv A outer s H vs Q E hr h => ?_)
  · obtain ⟨_, _, _, _, _, _, _, rfl, _⟩ := h; rfl
  · obtain ⟨A, x, W, h, d, sl1, v, rfl, ⟨s0, R, F⟩, k⟩ := h
    refine ⟨_, (pss_cons (ps_asg (pe_meth (pv 0) T.cl_Wood T.m_way (ok_Wood_way T) (hr.mono (by decide)) T.b_Wood_way .nil (passes_call (takes_of rfl rfl rfl rfl) (fun _ _ _ _ h => h)) (pa_cons (pv 1) (pa_cons (pv 2) pa_nil))) (pg_tup rfl (pgs_cons (pg_name (i := 5) sc_Wood_put.nd rfl (Or.inl rfl)) (pgs_cons (pg_name (i := 6) sc_Wood_put.nd rfl (Or.inl rfl)) pgs_nil)))) (pss_cons (ps_if (pt_not (pt_chain op_le op_lt pe_int (pv 3) (pe_callB (call_lenK K rfl) rfl T.n_len PySem.boot_len (pa_cons (pe_fldK K rfl (pe_dget (hu_of hr) (pe_fldK K rfl (pv 0) rfl) (pe_ix (ix_listK K rfl) (pv 5) (pv 2) (fun _ _ => rfl)) (fun _ _ => rfl)) rfl) pa_nil)))) (pss_one (ps_raise rfl (takes_of rfl rfl rfl rfl) (pmk_own PySem.F.excBase_ValueError T.x_NoSlot.1 T.g_NoSlot T.x_NoSlot.2.1 (raises_own T.x_NoSlot.2.2.1 T.x_NoSlot.2.2.2) rfl))) pss_nil) (pss_cons (ps_if (pt_cmpR op_isN1 (pv 6) pe_non (nomark _)) (pss_cons (ps_asg (pv 4) (pg_sub (pe_fldK K rfl (pe_dget (hu_of hr) (pe_fldK K rfl (pv 0) rfl) (pe_ix (ix_listK K rfl) (pv 5) (pv 2) (fun _ _ => rfl)) (fun _ _ => rfl)) rfl) (pv 3) set_list)) (pss_one (ps_ret pe_int))) pss_nil) (pss_cons (ps_expr (pe_meth (pv 0) T.cl_Wood T.m_need_free (ok_Wood_need_free T) (hr.mono (by decide)) T.b_Wood_need_free .nil (passes_call (takes_of rfl rfl rfl rfl) (fun _ _ _ _ h => h)) (pa_cons (pe_op op_add (pe_op op_sub (pv 2) (pv 6)) pe_int) pa_nil))) (pss_cons (ps_set (i := 7) sc_Wood_put.nd rfl (Or.inl rfl) (pe_meth (pv 0) T.cl_Wood T.m_copied (ok_Wood_copied T) (hr.mono (by decide)) T.b_Wood_copied .nil pass0 (pa_cons (pv 1) (pa_cons (pv 5) (pa_cons (pv 6) pa_nil))))) (pss_cons (ps_asg (pv 4) (pg_sub (pe_fldK K rfl (pe_dget (hu_of hr) (pe_fldK K rfl (pv 0) rfl) (pv 7) (fun _ _ => rfl)) rfl) (pv 3) set_list)) (pss_one (ps_ret (pe_op op_add (pe_op op_sub (pv 2) (pv 6)) pe_int))))))))), ?_⟩
    unfold doPut at k
    have hp := s0 _ _ R.ins
    refine ⟨_, rfl, x.p, _, _, rfl, hp, wf_no (by decide +kernel), _, rfl, _, rfl, A, x, W, h, d, rfl, ⟨s0, R, F⟩, ?_⟩
    cases ew : doWay W h d with
    | error er => rw [ew] at k; exact k
    | ok r =>
      obtain ⟨q, o⟩ := r
      rw [ew] at k
      simp only at k
      -- what the way is
      have wk : hOk W h ∧ 0 ≤ d ∧ d < ((path W.frames (top W h)).length : Int) ∧ q = (path W.frames (top W h)).take (d.toNat + 1) ∧ o = (sh W.frames q).head? := by
        unfold doWay at ew
        split at ew
        · cases ew
        · rename_i h1
          split at ew
          · cases ew
          · rename_i h2
            have e := Except.ok.inj ew
            have e1 := congrArg Prod.fst e
            have e2 := congrArg Prod.snd e
            have h2 := Decidable.byContradiction h2
            have e1' : (path W.frames (top W h)).take (d.toNat + 1) = q := e1
            refine ⟨Decidable.byContradiction h1, h2.1, h2.2, e1'.symm, ?_⟩
            rw [← e1']; exact e2.symm
      obtain ⟨hk, d0, dl, eq0, eo⟩ := wk
      have hql : q.length = d.toNat + 1 := by rw [eq0, List.length_take]; omega
      have pth := F.tpath h
      have hlen : (path W.frames (top W h)).length ≤ 40 := Nat.le_trans pth.len F.len
      have hqd : q.getD d.toNat 0 ∈ path W.frames (top W h) := by
        have : q.getD d.toNat 0 ∈ q := by
          rw [List.getD_eq_getElem?_getD, List.getElem?_eq_getElem (by omega)]; exact List.getElem_mem _
        rw [eq0] at this
        rw [eq0]; exact List.mem_of_mem_take this
      obtain ⟨fd, hfd⟩ := pth.in _ hqd
      intro H1 t l e1 nl ht hl
      have up : ∀ {b : Addr} {u : HO}, A b = some u → H1 b = some u := fun {b u} e => e1 _ _ (s0 _ _ e)
      have S1 := (Stp.refl s0).same e1
      refine ⟨t, _, rfl, SqT.of ht, rfl, _, _, rfl, _, _, rfl, rfl, ?_⟩
      -- the slot
      refine ⟨_, rfl, _, _, rfl, rfl, _, rfl, ?_⟩
      have esl : sl W.frames (q.getD d.toNat 0) = fd.slots := sl_of hfd
      rw [esl] at k
      have hixd := atI_pos (l := q) d0 (by omega)
      by_cases a0 : 0 ≤ sl1
      · rw [decide_eq_true a0]
        refine iteT ⟨_, rfl, x.p, _, _, _, _, rfl, up R.ins, T.cl_Wood, T.a_frames, wf_frames, _, rfl, _, rfl, l, _, _, _, rfl, rfl, SqL.of hl, hixd, x.fa, _, rfl, get_fr (up R.frs) hfd, x.fo _, _, _, _, _, rfl, up (R.fr _ fd hfd), T.cl_Frame, T.a_slots, ff_slots, x.so _, _, rfl, .inl (SqL.of (up (R.sl _ fd hfd))), _, _, rfl, rfl, _, rfl, ?_⟩
        rw [List.length_map]
        by_cases a1 : sl1 < (fd.slots.length : Int)
        · rw [decide_eq_true a1]
          rw [if_neg (fun z => z ⟨a0, a1⟩)] at k
          refine iteF ⟨_, rfl, rfl, _, rfl, ?_⟩
          cases o with
          | none =>
            simp only at k
            refine iteT ⟨_, rfl, _, rfl, x.p, _, _, _, _, rfl, up R.ins, T.cl_Wood, T.a_frames, wf_frames, _, rfl, _, rfl, l, _, _, _, rfl, rfl, SqL.of hl, hixd, x.fa, _, rfl, get_fr (up R.frs) hfd, x.fo _, _, _, _, _, rfl, up (R.fr _ fd hfd), T.cl_Frame, T.a_slots, ff_slots, _, rfl, x.so _, _, sl1, sl1.toNat, rfl, rfl, up (R.sl _ fd hfd), by rw [List.length_map]; exact ixN_ok a0 a1, ?_⟩
            have e : (fd.slots.map V.int).set sl1.toNat (V.int v) = (fd.slots.set sl1.toNat v).map V.int := by rw [List.map_set]
            rw [e]
            have ess : setSlot W.frames (q.getD d.toNat 0) sl1 v = pt W.frames (q.getD d.toNat 0) { fd with slots := fd.slots.set sl1.toNat v } := by unfold setSlot; rw [hfd]
            rw [ess] at k
            exact k _ x _ rfl (R.setSl hfd _) (S1.upd (R.sl _ fd hfd) _)
          | some i =>
            simp only at k
            refine iteF ⟨_, rfl, x.p, _, _, rfl, up R.ins, wf_no (by decide +kernel), _, rfl, _, rfl, _, _, rfl, rfl, _, _, rfl, rfl, A, x, W, d - (i : Int) + 1, rfl, S1.own, R, fun hfree => ?_, fun hfull => ?_⟩
            · rw [if_neg (by omega)] at k
              have room : (W.frames.length : Int) + (((d.toNat : Nat) : Int) - i + 1) ≤ W.rooms := by omega
              refine ⟨_, rfl, x.p, _, _, rfl, up R.ins, wf_no (by decide +kernel), _, rfl, _, rfl, _, rfl, A, x, W, h, l, q, i, d.toNat, rfl, ⟨S1.own, R, F⟩, hk, hl, S1.free0' nl s0, by omega, eq0.symm, eo.symm, room, fun A2 x2 H2 hx2 R2 S2 => ?_⟩
              have C := copied_ok F hk rfl (by omega) eq0.symm eo.symm room
              have c5 := C.at_
              obtain ⟨fr, hfr⟩ := (C.wfw.tpath h).in _ (List.mem_of_getElem? c5)
              have c9 : sl (copied W h q i).2.frames (copied W h q i).1 = fd.slots := by
                have a : (vals (copied W h q i).2)[h.toNat]? = some (vl (copied W h q i).2.frames (top (copied W h q i).2 h)) := by unfold vals; rw [List.getElem?_map, top_get C.hok]; rfl
                have b : (vals W)[h.toNat]? = some (vl W.frames (top W h)) := by unfold vals; rw [List.getElem?_map, top_get hk]; rfl
                have e := C.vals
                rw [e, b] at a
                have e2 := Option.some.inj a
                have e3 : (vl (copied W h q i).2.frames (top (copied W h q i).2 h))[d.toNat]? = some (sl (copied W h q i).2.frames (copied W h q i).1) := by unfold vl; rw [List.getElem?_map, c5]; rfl
                have e4 : (vl W.frames (top W h))[d.toNat]? = some (sl W.frames (q.getD d.toNat 0)) := by
                  unfold vl
                  rw [List.getElem?_map, eq0, List.getD_eq_getElem?_getD, List.getElem?_take_of_lt (by omega), List.getElem?_eq_getElem (by omega)]; rfl
                rw [← e2, e4, esl] at e3
                exact (Option.some.inj e3).symm
              rw [sl_of hfr] at c9
              have S3 := S1.trans S2
              have hp2 := S3.own _ _ R2.ins
              rw [hx2] at hp2
              have hsr := S3.own _ _ (R2.sl _ fr hfr)
              refine ⟨_, rfl, _, rfl, x.p, _, _, _, _, rfl, hp2, T.cl_Wood, T.a_frames, wf_frames, _, rfl, x2.fa, _, rfl, get_fr (S3.own _ _ R2.frs) hfr, x2.fo _, _, _, _, _, rfl, S3.own _ _ (R2.fr _ fr hfr), T.cl_Frame, T.a_slots, ff_slots, _, rfl, x2.so _, _, sl1, sl1.toNat, rfl, rfl, hsr, by rw [List.length_map, c9]; exact ixN_ok a0 a1, ?_⟩
              have e : (fr.slots.map V.int).set sl1.toNat (V.int v) = (fr.slots.set sl1.toNat v).map V.int := by rw [List.map_set]
              rw [e]
              have ess : setSlot (copied W h q i).2.frames (copied W h q i).1 sl1 v = pt (copied W h q i).2.frames (copied W h q i).1 { fr with slots := fr.slots.set sl1.toNat v } := by unfold setSlot; rw [hfr]
              rw [ess] at k
              exact ⟨_, rfl, _, rfl, _, _, rfl, rfl, _, _, rfl, rfl, k _ x2 _ hx2 (R2.setSl hfr _) (S3.upd (R2.sl _ fr hfr) _)⟩
            · rw [if_pos hfull] at k
              exact k _ e1
        · rw [decide_eq_false a1]
          rw [if_pos (fun z => a1 z.2)] at k
          exact iteT (k _ e1)
      · rw [decide_eq_false a0]
        rw [if_pos (fun z => a0 z.1)] at k
        exact iteF ⟨_, rfl, iteT (k _ e1)⟩
end
end Sk
end
section
/-! SwM5: what calls tells. -/
namespace Sk
open PySem PySem.Spec PyProof.Rows L2 SW
/-- a row of calls: its tuple, its list, the room, the frame -/
abbrev CRow : Type := Addr × Addr × Int × Fr
def RowAt (H : Hp) (t : CRow) : Prop := H t.1 = some (.tup [.int t.2.2.1, oV t.2.2.2.below, .int t.2.2.2.needs, .ref t.2.1]) ∧ H t.2.1 = some (.lst (t.2.2.2.slots.map V.int))
structure CallsAt (H H' : Hp) (p : Addr) (ts : List CRow) : Prop where
  same : Same H H'
  np : H p = none
  lst : H' p = some (.lst (ts.map fun t => V.ref t.1))
  rows : ∀ t ∈ ts, RowAt H' t
  nt : ∀ t ∈ ts, H t.1 = none ∧ H t.2.1 = none ∧ t.2.1 ≠ p
/-- the frames by their rooms -/
def Rows (W : Wd) (ts : List CRow) : Prop := (ts.map fun t => t.2.2.1).Perm (ks W.frames) ∧ (ts.map fun t => t.2.2.1).Pairwise (· ≤ ·) ∧ ∀ t ∈ ts, lk W.frames t.2.2.1 = some t.2.2.2
def spCalls (K : PySem.W.Frag) : Sp := fun vs H Q _ => ∃ (A : Hp) (x : Ad) (W : Wd), vs = [.ref x.p] ∧ At K A H x W ∧ ∀ H' p ts, CallsAt H H' p ts → Rows W ts → Q (.ref p) H'
section
variable {P : Program} {w : World} {K : PySem.W.Frag} {mg : Str → Option Value} {base : Heap}
theorem ok_Wood_calls (T : Txt K mg) : FnOk P w K mg base CX0 1 (aW K "calls") (fdOf K (aW K "calls")) ["self"] (spCalls K) := by
  refine T.F_Wood_calls.ok sc_Wood_calls (fun vs H Q E h => ?_) (fun cdv A outer s H vs Q E hr h => ?_)
  · obtain ⟨_, _, _, rfl, _⟩ := h; rfl
  · obtain ⟨A, x, W, rfl, ⟨s0, R, F⟩, k⟩ := h
    refine ⟨_, PSs.nox (pss_cons (ps_set (i := 1) sc_Wood_calls.nd rfl (Or.inl rfl) (pe_lst pa_nil)) (pss_cons (ps_for PassesOwn.never rfl (pi_listK K rfl (pe_callB (call_sortedDA rfl) rfl T.n_sorted (by decide +kernel) (pa_cons (pe_fldK K rfl (pv 0) rfl) pa_nil))) (pg_name (i := 2) sc_Wood_calls.nd rfl (Or.inl rfl)) (pss_cons (ps_set (i := 3) sc_Wood_calls.nd rfl (Or.inl rfl) (pe_dget (hu_of hr) (pe_fldK K rfl (pv 0) rfl) (pv 2) (fun _ _ => rfl))) (pss_one (ps_expr (pe_bm PySem.F.plainAttrs_list PySem.F.slot_list_append PySem.F.type_list_append mt_append (pv 1) (by exact (pa_cons (pe_tup (pa_cons (pv 2) (pa_cons (pe_fldK K rfl (pv 3) rfl) (pa_cons (pe_fldK K rfl (pv 3) rfl) (pa_cons (pe_callTy (call_listK K rfl) rfl T.n_list (by decide +kernel) (pa_cons (pe_fldK K rfl (pv 3) rfl) pa_nil)) pa_nil))))) pa_nil))))))) (pss_one (ps_ret (pv 1))))), ?_⟩
    refine ⟨Nat.zero_le _, fun p np => ?_⟩
    have e1 := same_new np (.lst [])
    have up1 : ∀ {b : Addr} {o : HO}, A b = some o → upd H p (.lst []) b = some o := fun e => e1 _ _ (s0 _ _ e)
    have kl : (ks W.frames).length ≤ 40 := by rw [← len_ks]; exact F.len
    refine ⟨_, rfl, x.p, _, _, _, _, rfl, up1 R.ins, T.cl_Wood, T.a_frames, wf_frames, x.fa, _, ks W.frames, rfl, .inl (up1 R.frs), ?_, by omega, fun ys q hp hs nq => ?_⟩
    · unfold frV ks; rw [List.map_map, List.map_map]; rfl
    have npq : p ≠ q := ne_of_none upd_same nq
    have yl : ys.length ≤ 40 := by rw [hp.length_eq]; exact kl
    refine ⟨q, rfl, ⟨_, SqL.of upd_same⟩, ?_⟩
    refine for_list (K := K) (a := q) (xs := ys.map V.int) (fun i σ H' => ∃ (u2 u3 : Option V) (ts : List CRow), σ = [some (.ref x.p), some (.ref p), u2, u3] ∧ CallsAt H H' p ts ∧ H' q = some (.lst (ys.map V.int)) ∧ ts.map (fun t => t.2.2.1) = ys.take i ∧ ∀ t ∈ ts, lk W.frames t.2.2.1 = some t.2.2.2)
      ⟨none, none, [], rfl, ⟨fun b o e => by rw [upd_ne (ne_of_none (e1 _ _ e) nq)]; exact e1 _ _ e, np, by rw [upd_ne npq]; exact upd_same, by simp, by simp⟩, upd_same, rfl, by simp⟩ (fun i σ H' _ ⟨_, _, _, _, _, e, _⟩ => SqL.of e) ?_ ?_
    · rintro i v σ H' hi ⟨u2, u3, ts, rfl, C, hq, hr9, hf⟩
      obtain ⟨r, er, rfl⟩ : ∃ r, ys[i]? = some r ∧ v = V.int r := by
        rw [List.getElem?_map] at hi
        cases e : ys[i]? with
        | none => rw [e] at hi; cases hi
        | some r => rw [e] at hi; exact ⟨r, rfl, (Option.some.inj hi).symm⟩
      obtain ⟨f, ef⟩ := mem_ks.mp (hp.subset (List.mem_of_getElem? er))
      have up : ∀ {b : Addr} {o : HO}, A b = some o → H' b = some o := fun e => C.same _ _ (s0 _ _ e)
      have hfr := up (R.fr r f ef)
      refine ⟨_, rfl, x.p, _, _, _, _, rfl, up R.ins, T.cl_Wood, T.a_frames, wf_frames, _, rfl, x.fa, _, rfl, get_fr (up R.frs) ef, ?_⟩
      refine ⟨_, rfl, .inl ⟨rfl, _, SqL.of C.lst⟩, _, rfl, _, rfl, x.fo r, _, _, _, _, rfl, hfr, T.cl_Frame, T.a_below, ff_below, _, rfl, x.fo r, _, _, _, _, rfl, hfr, T.cl_Frame, T.a_needs, ff_needs, _, rfl, x.fo r, _, _, _, _, rfl, hfr, T.cl_Frame, T.a_slots, ff_slots, x.so r, _, rfl, .inl (SqL.of (up (R.sl r f ef))), fun l nl => ?_⟩
      refine ⟨by show 4 ≤ sizeLine; exact sz (by omega), fun t nt => ?_⟩
      have npl : p ≠ l := ne_of_none C.lst nl
      have nlt : l ≠ t := ne_of_none upd_same nt
      have e2 := same_new nl (.lst (f.slots.map V.int))
      have e3 := e2.trans (same_new nt (.tup [V.int r, oV f.below, V.int f.needs, V.ref l]))
      have npt : p ≠ t := ne_of_none (e2 _ _ C.lst) nt
      have lts := congrArg List.length hr9
      rw [List.length_map, List.length_take] at lts
      refine ⟨p, _, _, rfl, rfl, e3 _ _ C.lst, szl (by rw [List.length_map]; omega), ?_⟩
      have hlt : H t = none := C.same.free (e2.free nt)
      refine ⟨_, _, ts ++ [(t, l, r, f)], rfl, ⟨fun b o e => ?_, np, by rw [upd_same, List.map_append]; rfl, fun z hz => ?_, fun z hz => ?_⟩, ?_, by rw [List.map_append, hr9, take_snoc er]; rfl, fun z hz => ?_⟩
      · rw [upd_ne (ne_of_none e np)]; exact e3 _ _ (C.same _ _ e)
      · rcases List.mem_append.mp hz with w | w
        · obtain ⟨r1, r2⟩ := C.rows z w
          have n1 : z.1 ≠ p := ne_of r1 C.lst (by intro q; cases q)
          exact ⟨by rw [upd_ne n1]; exact e3 _ _ r1, by rw [upd_ne (C.nt z w).2.2]; exact e3 _ _ r2⟩
        · have : z = (t, l, r, f) := by simpa using w
          subst this
          exact ⟨by rw [upd_ne npt.symm]; exact upd_same, by rw [upd_ne npl.symm, upd_ne nlt]; exact upd_same⟩
      · rcases List.mem_append.mp hz with w | w
        · exact C.nt z w
        · have : z = (t, l, r, f) := by simpa using w
          subst this
          exact ⟨hlt, C.same.free nl, npl.symm⟩
      · have nqp : q ≠ p := npq.symm
        rw [upd_ne nqp]; exact e3 _ _ hq
      · rcases List.mem_append.mp hz with w | w
        · exact hf z w
        · have : z = (t, l, r, f) := by simpa using w
          subst this; exact ef
    · rintro σ H' ⟨u2, u3, ts, rfl, C, hq, hr9, hf⟩
      rw [List.length_map, List.take_length] at hr9
      exact ⟨_, rfl, k H' p ts C ⟨by rw [hr9]; exact hp, by rw [hr9]; exact hs, hf⟩⟩
end
end Sk
end
section
/-! SwKit2: more rules for the laws' own defs. -/
namespace Sk
open PySem PySem.Spec PyProof.Rows L2
/-- a list display, its place no object of the written part -/
def tLstN (K : PySem.W.Frag) (t : TA) : TE := fun σ H Q => t σ H fun xs H1 => xs.length ≤ sizeLine ∧ ∀ p, H1 p = none → K.lookup p = none → Q (.ref p) (upd H1 p (.lst xs))
theorem pe_lstN {X : Cx} {K : PySem.W.Frag} {es : List Expr} {t : TA} {pos : Pos} (hK : X.K = K) (h : PA X es t) : PE X (.List es pos) (tLstN K t) := by
  subst hK
  refine ⟨fun pins s σ H Q I hq => wpAny_List_spliced (thn (h.run pos pins s σ H _ I hq) fun us s1 ⟨xs, H1, I1, r, z, q⟩ => ⟨by rw [← r.length]; exact z, ?_⟩)⟩
  have hn : X.K.lookup s1.heap.objs.size = none := by
    cases e : X.K.lookup s1.heap.objs.size with
    | none => rfl
    | some o => exact absurd (Heap.lt_size (I1.kIn _ _ e)) (Nat.lt_irrefl _)
  exact ⟨.ref _, upd H1 s1.heap.objs.size (.lst xs), I1.laid (t' := s1.toks) (fun _ _ e => Heap.get?_push_of_some _ e) (Nat.le_refl _) ⟨z, us, 0, r, Heap.get?_push_size _ rfl⟩, rfl, q _ (I1.hok.fresh (Nat.le_refl _)) hn⟩
theorem ix_seqK {X : Cx} (K : PySem.W.Frag) (h : X.K = K) : IxR X (rIx K) := by subst h; exact ix_seq
/-- xs.count(b), a list of truth values -/
def rCntB (K : PySem.W.Frag) : V → List V → Hp → VK → Prop := fun x xs H Q => ∃ (p : Addr) (bs : List Bool) (k : Bool), x = .ref p ∧ xs = [.bl k] ∧ SqL K H p (bs.map V.bl) ∧ Q (.int (countIn (.bool k) (bs.map PyData.bool))) H
theorem dp_bools {K : PySem.W.Frag} {H : Hp} : ∀ bs : List Bool, DpAll K H (bs.map V.bl) (bs.map PyData.bool)
  | [] => .nil
  | b :: r => .cons (.bl b) (dp_bools r)
theorem mt_countB {X : Cx} {K : PySem.W.Frag} (hK : X.K = K) : MtR X "list.count" (rCntB K) := by
  subst hK
  rintro pins s σ H x xs v us Q I rx rxs ⟨p, bs, k, rfl, rfl, hs, q⟩
  cases rx
  obtain ⟨u, rfl, ru⟩ := rxs.one
  obtain rfl : u = Value.bool k := ru
  obtain ⟨its, rv, hl, hlen⟩ := I.list hs
  obtain ⟨as, ra⟩ := Dp.readsAll I (bs.map PyData.bool) (bs.map V.bl) its (dp_bools bs) rv
  refine count_list_bools hl.isList ra (by induction bs with | nil => rfl | cons b r ih => exact (Bool.and_eq_true _ _).mpr ⟨rfl, by rw [List.all_eq_true]; intro z hz; obtain ⟨b, _, rfl⟩ := List.mem_map.mp hz; rfl⟩) ?_
  exact ⟨.int _, H, I.tok _, ⟨_, rfl⟩, q⟩
end Sk
end
section
/-! SwL1: the law's dice, numbers and deeds. -/
namespace Sk
open PySem PySem.Spec PyProof.Rows L2 SW
theorem ifT {c : Bool} {A B : Prop} (h : c = true) (a : A) : if c = true then A else B := by rw [h, if_pos rfl]; exact a
theorem ifF {c : Bool} {A B : Prop} (h : c = false) (b : B) : if c = true then A else B := by rw [h, if_neg (by decide)]; exact b
abbrev aG (K : PySem.W.Frag) (x : Str) : Addr := He.fAd K (x, none)
/-- the dice at d, over the script at a -/
def diceL (a : Addr) (i m r : Int) : List V := [.ref a, .int i, .int m, .int r]
def Dice (H : Hp) (d a : Addr) : Prop := d ≠ a ∧ ∃ i m r : Int, 0 ≤ i ∧ H d = some (.lst (diceL a i m r))
/-- the deeds -/
inductive Deed
  | call (h : Int) (vs : List Int)
  | back (h : Int)
  | put (h d s v : Int)
  | branch (h o : Int)
  | keep (h : Int)
  | leap (h p : Int)
  | forget (p : Int)
/-- a deed's tuple at t -/
def DeedAt (H : Hp) (t : Addr) : Deed → Prop
  | .call h vs => ∃ l, H t = some (.tup [.str "call", .int h, .ref l]) ∧ H l = some (.lst (vs.map V.int))
  | .back h => H t = some (.tup [.str "back", .int h])
  | .put h d s v => H t = some (.tup [.str "put", .int h, .int d, .int s, .int v])
  | .branch h o => H t = some (.tup [.str "branch", .int h, .int o])
  | .keep h => H t = some (.tup [.str "keep", .int h])
  | .leap h p => H t = some (.tup [.str "leap", .int h, .int p])
  | .forget p => H t = some (.tup [.str "forget", .int p])
/-- what is new in H' -/
def fresh (H H' : Hp) : Hp := fun b => match H b with
  | none => H' b
  | some _ => none
theorem fresh_of {H H' : Hp} {b : Addr} {o : HO} (n : H b = none) (e : H' b = some o) : fresh H H' b = some o := by
  unfold fresh; rw [n]; exact e
theorem fresh_to {H H' : Hp} {b : Addr} {o : HO} (e : fresh H H' b = some o) : H b = none ∧ H' b = some o := by
  unfold fresh at e
  cases q : H b with
  | none => rw [q] at e; exact ⟨rfl, e⟩
  | some u => rw [q] at e; cases e
theorem DeedAt.up {H H' : Hp} {t : Addr} {D : Deed} (h : DeedAt H t D) (k1 : ∀ b xs, H b = some (.tup xs) → H' b = some (.tup xs)) (k2 : ∀ b xs, H b = some (.lst xs) → H' b = some (.lst xs)) : DeedAt H' t D := by
  cases D with
  | call h vs =>
    obtain ⟨l, h1, h2⟩ := h
    exact ⟨l, k1 _ _ h1, k2 _ _ h2⟩
  | back h0 => exact k1 _ _ h
  | put h0 d s v => exact k1 _ _ h
  | branch h0 o => exact k1 _ _ h
  | keep h0 => exact k1 _ _ h
  | leap h0 p => exact k1 _ _ h
  | forget p => exact k1 _ _ h
theorem DeedAt.of {H H' : Hp} {t : Addr} {D : Deed} (h : DeedAt (fresh H H') t D) : DeedAt H' t D := h.up (fun _ _ e => (fresh_to e).2) fun _ _ e => (fresh_to e).2
/-- what is drawn -/
def Drawn (hands deep places : Int) : Deed → Prop
  | .call h vs => (0 ≤ h ∧ h < hands) ∧ vs.length ≤ 3 ∧ ∀ v ∈ vs, -1000 ≤ v ∧ v ≤ 1000
  | .back h => 0 ≤ h ∧ h < hands
  | .put h d s v => (0 ≤ h ∧ h < hands) ∧ (0 ≤ d ∧ d ≤ deep) ∧ (0 ≤ s ∧ s < 3) ∧ -1000 ≤ v ∧ v ≤ 1000
  | .branch h o => (0 ≤ h ∧ h < hands) ∧ 0 ≤ o ∧ o < hands
  | .keep h => 0 ≤ h ∧ h < hands
  | .leap h p => (0 ≤ h ∧ h < hands) ∧ 0 ≤ p ∧ p ≤ places
  | .forget p => 0 ≤ p ∧ p ≤ places
section
variable (K : PySem.W.Frag)
def spDice : Sp := fun vs H Q _ => ∃ (a : Addr) (ns : List Int), vs = [.ref a] ∧ SqL K H a (ns.map V.int) ∧ ns.length ≤ 63 ∧ ∀ d m, H d = none → d ≠ a → Q (.ref d) (upd H d (.lst (diceL a 0 m 0)))
def spNext : Sp := fun vs H Q _ => ∃ (d a : Addr) (n : Int) (ns : List Int), vs = [.ref d, .int n] ∧ Dice H d a ∧ SqL K H a (ns.map V.int) ∧ (0 < n ∧ n ≤ 2000000000) ∧
  ∀ v i m r, 0 ≤ v → v < n → 0 ≤ i → Q (.int v) (upd H d (.lst (diceL a i m r)))
def spNumber : Sp := fun vs H Q _ => ∃ (d a : Addr) (ns : List Int), vs = [.ref d] ∧ Dice H d a ∧ SqL K H a (ns.map V.int) ∧
  ∀ v H', -1000 ≤ v → v ≤ 1000 → Dice H' d a → Kp d H H' → Q (.int v) H'
def spDeed : Sp := fun vs H Q _ => ∃ (d a t : Addr) (ns : List Int) (hands deep places : Int), vs = [.ref d, .ref t] ∧ Dice H d a ∧ SqL K H a (ns.map V.int) ∧ H t = some (.tup [.int hands, .int deep, .int places]) ∧ (1 ≤ hands ∧ hands ≤ 6) ∧ (0 ≤ deep ∧ deep ≤ 1000000) ∧ (0 ≤ places ∧ places ≤ 1000000) ∧
  ∀ t' D H', Drawn hands deep places D → DeedAt (fresh H H') t' D → Dice H' d a → Kp d H H' → Q (.ref t') H'
end
theorem sq_upd {K : PySem.W.Frag} {H : Hp} {d a : Addr} {xs zs : List V} {ns : List Int} (h : SqL K H a (ns.map V.int)) (_ : H d = some (.lst xs)) (n : d ≠ a) : SqL K (upd H d (.lst zs)) a (ns.map V.int) := by
  rcases h with (h | ⟨o, h⟩) | h
  · exact .inl (.inl ((upd_ne n.symm).trans h))
  · exact .inl (.inr ⟨o, (upd_ne n.symm).trans h⟩)
  · exact .inr h
theorem Kp.sq {K : PySem.W.Frag} {H H' : Hp} {d a : Addr} {xs : List V} (k : Kp d H H') (h : SqL K H a xs) (n : a ≠ d) : SqL K H' a xs := by
  rcases h with (h | ⟨o, h⟩) | h
  · exact .inl (.inl (k a _ n h))
  · exact .inl (.inr ⟨o, k a _ n h⟩)
  · exact .inr h
theorem Kp.refl (d : Addr) (H : Hp) : Kp d H H := fun _ _ _ e => e
theorem Kp.trans {d : Addr} {H H1 H2 : Hp} (a : Kp d H H1) (b : Kp d H1 H2) : Kp d H H2 := fun c o n e => b c o n (a c o n e)
theorem Kp.of {d : Addr} {H H' : Hp} (s : Same H H') : Kp d H H' := fun c o _ e => s c o e
section
variable {P : Program} {w : World} {K : PySem.W.Frag} {mg : Str → Option Value} {base : Heap}
theorem ok_l_dice (T : Txt K mg) : FnOk P w K mg base CX0 1 (aG K "_law_dice") (fdOf K (aG K "_law_dice")) ["_law_script"] (spDice K) := by
  refine T.F_l_dice.ok sc_l_dice (fun vs H Q E h => ?_) (fun cdv A outer s H vs Q E hr h => ?_)
  · obtain ⟨_, _, rfl, _⟩ := h; rfl
  · obtain ⟨a, ns, rfl, hs, hl, k⟩ := h
    refine ⟨_, PSs.nox (pss_cons (ps_set (i := 1) sc_l_dice.nd rfl (Or.inl rfl) pe_int) (pss_cons (ps_for PassesOwn.never rfl (pi_listK K rfl (pv 0)) (pg_name (i := 2) sc_l_dice.nd rfl (Or.inl rfl)) (pss_one (ps_set (i := 1) sc_l_dice.nd rfl (Or.inl rfl) (pe_op op_mod (pe_op op_add (pe_op op_add (pe_op op_mul (pv 1) pe_int) (pe_op op_mul (pe_op op_mod (pv 2) pe_int) pe_int)) pe_int) pe_int)))) (pss_one (ps_ret (pe_lstN (K := K) rfl (pa_cons (pv 0) (pa_cons pe_int (pa_cons (pe_op op_mul (pv 1) (pe_callTy call_int1 rfl T.n_int (by decide +kernel) (pa_cons (pe_cmpR op_gt (pe_callB (call_lenK K rfl) rfl T.n_len PySem.boot_len (pa_cons (pv 0) pa_nil)) pe_int (nomark _)) pa_nil))) (pa_cons pe_int pa_nil))))))))), ?_⟩
    refine ⟨_, rfl, a, rfl, ⟨_, hs⟩, ?_⟩
    refine for_list (K := K) (a := a) (xs := ns.map V.int) (fun i σ H' => ∃ (m : Int) (v : Option V), σ = [some (.ref a), some (.int m), v] ∧ H' = H) ⟨0, none, rfl, rfl⟩ (fun i σ H' _ ⟨_, _, _, e⟩ => e ▸ hs) ?_ ?_
    · rintro i y σ H' hi ⟨m, v, rfl, rfl⟩
      obtain ⟨u, rfl⟩ : ∃ u, y = V.int u := by
        rw [List.getElem?_map] at hi
        cases e : ns[i]? with
        | none => rw [e] at hi; cases hi
        | some r => rw [e] at hi; exact ⟨r, (Option.some.inj hi).symm⟩
      refine ⟨_, rfl, _, _, rfl, rfl, .inr ⟨by decide, by decide⟩, _, rfl, _, _, rfl, rfl, by show (0 : Int) < 2147483647; decide, _, _, rfl, rfl, .inr ⟨by decide, by decide⟩, _, _, rfl, rfl, _, _, rfl, rfl, _, _, rfl, rfl, by show (0 : Int) < 2147483647; decide, ?_⟩
      exact ⟨_, _, rfl, rfl⟩
    · rintro σ H' ⟨m, v, rfl, rfl⟩
      refine ⟨_, rfl, _, rfl, _, rfl, a, _, rfl, .inl hs, _, _, rfl, rfl, .inr ⟨_, rfl, ?_⟩⟩
      have hb : ∀ c : Bool, CMul m (if c = true then 1 else 0) := fun c => .inr (by cases c <;> decide)
      refine ⟨_, _, rfl, rfl, hb _, by show 4 ≤ sizeLine; exact sz (by omega), fun d nd nK => ?_⟩
      refine k d _ nd (fun z => ?_)
      subst z
      rcases hs with (h | ⟨o, h⟩) | ⟨o, _, _, h, _⟩
      · rw [nd] at h; cases h
      · rw [nd] at h; cases h
      · rw [nK] at h; cases h
theorem ok_l_next (T : Txt K mg) : FnOk P w K mg base CX0 1 (aG K "_law_next") (fdOf K (aG K "_law_next")) ["_law_dice_here", "_law_many"] (spNext K) := by
  refine T.F_l_next.ok sc_l_next (fun vs H Q E h => ?_) (fun cdv A outer s H vs Q E hr h => ?_)
  · obtain ⟨_, _, _, _, rfl, _⟩ := h; rfl
  · obtain ⟨d, a, n, ns, rfl, ⟨nda, i, m, r, i0, hd⟩, hs, ⟨n0, n9⟩, k⟩ := h
    refine ⟨_, PSs.nox (pss_cons (ps_if (pt_cmpR op_gt (pe_ix (ix_listK K rfl) (pv 0) pe_int (fun _ _ => rfl)) pe_int (nomark _)) (pss_cons (ps_set (i := 2) sc_l_next.nd rfl (Or.inl rfl) (pe_op op_mod (pe_ix (ix_listK K rfl) (pv 0) pe_int (fun _ _ => rfl)) (pv 1))) (pss_cons (ps_asg (pe_op op_fdivW (pe_ix (ix_listK K rfl) (pv 0) pe_int (fun _ _ => rfl)) (pv 1)) (pg_sub (pv 0) pe_int set_list)) (pss_one (ps_ret (pv 2))))) pss_nil) (pss_cons (ps_asg (pe_op op_add (pe_ix (ix_listK K rfl) (pv 0) pe_int (fun _ _ => rfl)) pe_int) (pg_sub (pv 0) pe_int set_list)) (pss_cons (ps_if (pt_cmpR op_le (pe_ix (ix_listK K rfl) (pv 0) pe_int (fun _ _ => rfl)) (pe_callB (call_lenK K rfl) rfl T.n_len PySem.boot_len (pa_cons (pe_ix (ix_listK K rfl) (pv 0) pe_int (fun _ _ => rfl)) pa_nil)) (nomark _)) (pss_cons (ps_set (i := 3) sc_l_next.nd rfl (Or.inl rfl) (pe_ix (ix_listK K rfl) (pe_ix (ix_listK K rfl) (pv 0) pe_int (fun _ _ => rfl)) (pe_op op_sub (pe_ix (ix_listK K rfl) (pv 0) pe_int (fun _ _ => rfl)) pe_int) (fun _ _ => rfl))) (pss_cons (ps_asg (pe_ifExp (pt_cmpR op_ge (pv 3) (pe_op op_pow pe_int pe_int) (nomark _)) (pe_op op_fdivW (pv 3) (pv 1)) pe_int) (pg_sub (pv 0) pe_int set_list)) (pss_one (ps_ret (pe_op op_mod (pv 3) (pv 1)))))) pss_nil) (pss_cons (ps_asg (pe_op op_mod (pe_op op_mul (pe_ix (ix_listK K rfl) (pv 0) pe_int (fun _ _ => rfl)) pe_int) pe_int) (pg_sub (pv 0) pe_int set_list)) (pss_one (ps_ret (pe_op op_mod (pe_op op_fdivW (pe_ix (ix_listK K rfl) (pv 0) pe_int (fun _ _ => rfl)) pe_int) (pv 1)))))))), ?_⟩
    have hn2 : CDivW r n := wide_div (b := 40) n0 (by omega) (by decide) (by decide)
    refine ⟨_, rfl, d, _, _, _, rfl, rfl, SqL.of hd, atI_nat (j := 3) rfl, _, _, rfl, rfl, _, rfl, ?_⟩
    refine ite2 (fun _ => ?_) (fun _ => ?_)
    · refine ⟨_, rfl, d, _, _, _, rfl, rfl, SqL.of hd, atI_nat (j := 3) rfl, _, rfl, _, _, rfl, rfl, n0, ?_⟩
      refine ⟨_, rfl, d, _, _, _, rfl, rfl, SqL.of hd, atI_nat (j := 3) rfl, _, rfl, _, _, rfl, rfl, hn2, _, rfl, d, _, 3, 3, rfl, rfl, hd, rfl, ?_⟩
      exact ⟨_, rfl, k _ i m _ (Int.emod_nonneg _ (by omega)) (Int.emod_lt_of_pos _ n0) i0⟩
    · refine ⟨_, rfl, d, _, _, _, rfl, rfl, SqL.of hd, atI_nat (j := 1) rfl, _, _, rfl, rfl, _, rfl, d, _, 1, 1, rfl, rfl, hd, rfl, ?_⟩
      have hd1 : upd H d (.lst ((diceL a i m r).set 1 (V.int (i + 1)))) d = some (.lst (diceL a (i + 1) m r)) := upd_same
      have hs1 := sq_upd (zs := (diceL a i m r).set 1 (V.int (i + 1))) hs hd nda
      refine ⟨_, rfl, d, _, _, _, rfl, rfl, SqL.of hd1, atI_nat (j := 1) rfl, _, rfl, d, _, _, _, rfl, rfl, SqL.of hd1, atI_nat (j := 0) rfl, a, _, rfl, .inl hs1, _, _, rfl, rfl, _, rfl, ?_⟩
      rw [List.length_map]
      refine ite2 (fun hle => ?_) (fun _ => ?_)
      · have hle : i + 1 ≤ (ns.length : Int) := of_decide_eq_true hle
        have e1 : i + 1 - 1 = ((i.toNat : Nat) : Int) := by omega
        refine ⟨_, rfl, d, _, _, _, rfl, rfl, SqL.of hd1, atI_nat (j := 0) rfl, _, rfl, d, _, _, _, rfl, rfl, SqL.of hd1, atI_nat (j := 1) rfl, _, _, rfl, rfl, a, _, i + 1 - 1, V.int (ns.getD i.toNat 0), rfl, rfl, hs1, by rw [e1]; exact atI_int (by omega), ?_⟩
        generalize ns.getD i.toNat 0 = c
        have hn3 : CDivW c n := wide_div (b := 40) n0 (by omega) (by decide) (by decide)
        refine ⟨_, rfl, _, _, rfl, rfl, ⟨by decide, by decide, by decide⟩, _, _, rfl, rfl, _, rfl, ?_⟩
        refine ite2 (fun _ => ?_) (fun _ => ?_)
        · refine ⟨_, rfl, _, rfl, _, _, rfl, rfl, hn3, _, rfl, d, _, 3, 3, rfl, rfl, hd1, rfl, _, rfl, _, rfl, _, _, rfl, rfl, n0, ?_⟩
          rw [upd_upd]
          exact k _ (i + 1) m _ (Int.emod_nonneg _ (by omega)) (Int.emod_lt_of_pos _ n0) (by omega)
        · refine ⟨_, rfl, d, _, 3, 3, rfl, rfl, hd1, rfl, _, rfl, _, rfl, _, _, rfl, rfl, n0, ?_⟩
          rw [upd_upd]
          exact k _ (i + 1) m _ (Int.emod_nonneg _ (by omega)) (Int.emod_lt_of_pos _ n0) (by omega)
      · refine ⟨_, rfl, d, _, _, _, rfl, rfl, SqL.of hd1, atI_nat (j := 2) rfl, _, _, rfl, rfl, .inr ⟨by decide, by decide⟩, _, _, rfl, rfl, by show (0 : Int) < 2147483647; decide, _, rfl, d, _, 2, 2, rfl, rfl, hd1, rfl, ?_⟩
        rw [upd_upd]
        have h7 : ∀ z : Int, CDivW z 7 := fun z => wide_div (b := 40) (by decide) (by decide) (by decide) (by decide)
        refine ⟨_, rfl, d, _, _, V.int (m * 48271 % 2147483647), rfl, rfl, SqL.of upd_same, atI_nat (j := 2) rfl, _, _, rfl, rfl, h7 _, _, rfl, _, _, rfl, rfl, n0, ?_⟩
        exact k _ (i + 1) _ r (Int.emod_nonneg _ (by omega)) (Int.emod_lt_of_pos _ n0) (by omega)
/-- one draw -/
theorem draw {H : Hp} {d a : Addr} {ns : List Int} (D : Dice H d a) (hs : SqL K H a (ns.map V.int)) {i m r : Int} (i0 : 0 ≤ i) : Dice (upd H d (.lst (diceL a i m r))) d a ∧ SqL K (upd H d (.lst (diceL a i m r))) a (ns.map V.int) ∧ Kp d H (upd H d (.lst (diceL a i m r))) := by
  obtain ⟨n, _, _, _, _, hd⟩ := D
  exact ⟨⟨n, i, m, r, i0, upd_same⟩, sq_upd hs hd n, fun b o z e => by rw [upd_ne z]; exact e⟩
theorem Dice.scr {K : PySem.W.Frag} {H H' : Hp} {d a : Addr} {ns : List Int} (D : Dice H d a) (h : SqL K H a (ns.map V.int)) (k : Kp d H H') : SqL K H' a (ns.map V.int) := k.sq h D.1.symm
theorem dice_new {H : Hp} {d a p : Addr} {o : HO} (D : Dice H d a) (h : H p = none) : Dice (upd H p o) d a := by
  obtain ⟨n, i, m, r, i0, hd⟩ := D
  exact ⟨n, i, m, r, i0, (upd_ne (ne_of_none hd h)).trans hd⟩
theorem dice_there {H : Hp} {d a p : Addr} (D : Dice H d a) (h : H p = none) : p ≠ d := by
  obtain ⟨_, _, _, _, _, hd⟩ := D
  exact fun z => by rw [z, hd] at h; cases h
/-- new since H -/
theorem isnew {H Hk : Hp} {d a t : Addr} (k : Kp d H Hk) (D : Dice Hk d a) (n : Hk t = none) : H t = none := by
  cases e : H t with
  | none => rfl
  | some o => rw [k t o (dice_there D n) e] at n; cases n
end
end Sk
end
section
/-! SwVw: the views. -/
namespace Sk
open PySem PySem.Spec PyProof.Rows L2 SW
/-! ### what views tell, plain -/
def addU (a : List Int) (r : Int) : List Int := if r ∈ a then a else a ++ [r]
/-- the rooms of some piles, each once -/
def heldL (fs : Fs) (ts : List (Option Int)) : List Int := ts.foldl (fun a t => (path fs t).foldl addU a) []
/-- the first rooms that nobody else needs -/
def aloneL (fs : Fs) (l : List Int) : List Int := l.takeWhile fun r => decide (nd fs r ≤ 1)
theorem addU_len (a : List Int) (r : Int) : (addU a r).length ≤ a.length + 1 := by
  unfold addU; split
  · omega
  · rw [List.length_append]; simp
theorem addUs_len : ∀ (l a : List Int), (l.foldl addU a).length ≤ a.length + l.length
  | [], a => by simp
  | r :: l, a => by
    have h1 := addUs_len l (addU a r)
    have h2 := addU_len a r
    rw [List.foldl_cons, List.length_cons]; omega
theorem take_snocC {α : Type} {l : List α} {i : Nat} {r : α} (h : l[i]? = some r) : l.take (i + 1) = l.take i ++ [r] := by
  rw [List.take_add_one, h]; rfl
theorem paired_snoc {α β : Type} {F : α → β → Prop} {xs : List α} {ys : List β} (h : Paired F xs ys) {a : α} {b : β} (r : F a b) : Paired F (xs ++ [a]) (ys ++ [b]) := by
  induction h with
  | nil => exact .cons r .nil
  | cons r0 _ ih => exact .cons r0 ih
/-! ### dict(pairs) -/
def mkG (g : Fr → V) (ts : List CRow) : List (Key × V) := ts.map fun t => (Sum.inl t.2.2.1, g t.2.2.2)
theorem valV_out : ∀ {l : List (Key × V)} {k : Key}, k ∉ l.map (·.1) → valV l k = none
  | [], _, _ => rfl
  | p :: l, k, h => by
    have h1 : ¬ p.1 = k := fun z => h (by rw [List.map_cons]; exact z ▸ List.mem_cons_self ..)
    rw [valV_neg h1]
    exact valV_out fun z => h (by rw [List.map_cons]; exact List.mem_cons_of_mem _ z)
theorem valV_in : ∀ {l : List (Key × V)} {k : Key} {v : V}, (l.map (·.1)).Nodup → (k, v) ∈ l → valV l k = some v
  | [], _, _, _, h => by simp at h
  | p :: l, k, v, nd, h => by
    rw [List.map_cons] at nd
    obtain ⟨n1, n2⟩ := List.nodup_cons.mp nd
    rcases List.mem_cons.mp h with z | z
    · subst z; exact valV_pos rfl
    · have h1 : ¬ p.1 = k := fun q => n1 (List.mem_map.mpr ⟨_, z, q.symm⟩)
      rw [valV_neg h1]; exact valV_in n2 z
theorem merge_nodup : ∀ (l acc : List (Key × V)), ((acc ++ l).map (·.1)).Nodup → mergeK acc l = acc ++ l
  | [], acc, _ => by rw [List.append_nil]; rfl
  | p :: l, acc, nd => by
    have h1 : p.1 ∉ acc.map (·.1) := fun z => by
      rw [List.map_append, List.map_cons, List.nodup_append] at nd
      exact nd.2.2 _ z _ (List.mem_cons_self ..) rfl
    have e : putK acc p.1 p.2 = acc ++ [p] := putK_new _ (valV_out h1)
    show mergeK (putK acc p.1 p.2) l = _
    rw [e, merge_nodup l (acc ++ [p]) (by rw [List.append_assoc]; exact nd), List.append_assoc]; rfl
theorem rows_get {W : Wd} {ts : List CRow} (F : WFW W) (R : Rows W ts) (g : Fr → V) {r : Int} {f : Fr} (h : lk W.frames r = some f) : valV (mergeK [] (mkG g ts)) (Sum.inl r) = some (g f) := by
  obtain ⟨h1, _, h3⟩ := R
  have nd1 : (ts.map fun t => t.2.2.1).Nodup := h1.nodup_iff.mpr F.wf.nd
  have nd2 : ((mkG g ts).map (·.1)).Nodup := by
    have : (mkG g ts).map (·.1) = (ts.map fun t => t.2.2.1).map Sum.inl := by unfold mkG; rw [List.map_map, List.map_map]; rfl
    rw [this]
    exact List.Pairwise.map Sum.inl (fun a b ne z => ne (Sum.inl.inj z)) nd1
  rw [merge_nodup _ [] (by simpa using nd2), List.nil_append]
  have hm : r ∈ ts.map fun t => t.2.2.1 := h1.symm.subset (mem_ks.mpr ⟨f, h⟩)
  obtain ⟨t, ht, e⟩ := List.mem_map.mp hm
  have := h3 t ht
  rw [e, h] at this
  refine valV_in nd2 (List.mem_map.mpr ⟨t, ht, ?_⟩)
  rw [e, ← Option.some.inj this]
theorem rows_len {W : Wd} {ts : List CRow} (R : Rows W ts) : ts.length = W.frames.length := by
  have := R.1.length_eq
  rw [List.length_map] at this
  rw [this, ← len_ks]
def mkU (a : List Int) : List (Key × V) := a.map fun r => (Sum.inl r, V.bl true)
theorem putK_mkU (a : List Int) (r : Int) : putK (mkU a) (Sum.inl r) (.bl true) = mkU (addU a r) := by
  unfold addU
  by_cases h : r ∈ a
  · rw [if_pos h]
    have hv : valV (mkU a) (Sum.inl r) = some (.bl true) := by
      revert h
      induction a with
      | nil => intro h; simp at h
      | cons q l ih =>
        intro h
        by_cases z : q = r
        · subst z; exact valV_pos rfl
        · have : valV (mkU (q :: l)) (Sum.inl r) = valV (mkU l) (Sum.inl r) := valV_neg (p := (Sum.inl q, V.bl true)) (by simpa using z)
          rw [this]
          exact ih ((List.mem_cons.mp h).resolve_left fun w => z w.symm)
    unfold putK
    rw [valV_any, hv, if_pos (by rfl)]
    unfold mkU
    rw [List.map_map]
    refine List.map_congr_left fun q _ => ?_
    show (if Sum.inl q = Sum.inl r then _ else _) = _
    split
    · rename_i z; cases z; rfl
    · rfl
  · rw [if_neg h, putK_new _ ?_]
    · unfold mkU; rw [List.map_append]; rfl
    · refine valV_out ?_
      · intro z
        obtain ⟨p, hp, e⟩ := List.mem_map.mp z
        obtain ⟨q, hq, e2⟩ := List.mem_map.mp hp
        subst e2
        cases e
        exact h hq
theorem heldL_snoc (fs : Fs) (ts : List (Option Int)) (t : Option Int) : heldL fs (ts ++ [t]) = (path fs t).foldl addU (heldL fs ts) := by
  unfold heldL; rw [List.foldl_append]; rfl
theorem heldL_len {fs : Fs} : ∀ {ts : List (Option Int)}, (∀ t ∈ ts, (path fs t).length ≤ 40) → (heldL fs ts).length ≤ 40 * ts.length := by
  intro ts
  have key : ∀ (ts : List (Option Int)) (a : List Int), (∀ t ∈ ts, (path fs t).length ≤ 40) → (ts.foldl (fun a t => (path fs t).foldl addU a) a).length ≤ a.length + 40 * ts.length := by
    intro ts
    induction ts with
    | nil => intro a _; simp
    | cons t ts ih =>
      intro a h
      have h1 := ih ((path fs t).foldl addU a) fun t ht => h t (List.mem_cons_of_mem _ ht)
      have h2 := addUs_len (path fs t) a
      have h3 := h t (List.mem_cons_self ..)
      rw [List.foldl_cons, List.length_cons]; omega
  intro h
  have := key ts [] h
  unfold heldL
  rw [List.length_nil] at this; omega
theorem tw_stop {p : Int → Bool} : ∀ {l : List Int} {j : Nat} {a : Int}, (∀ (i : Nat) (b : Int), i < j → l[i]? = some b → p b = true) → l[j]? = some a → p a = false → (l.takeWhile p).length = j
  | [], _, _, _, e, _ => by simp at e
  | b :: l, 0, a, h, e, f => by
    have : b = a := by simpa using e
    subst this
    rw [List.takeWhile_cons, f]; rfl
  | b :: l, j + 1, a, h, e, f => by
    rw [List.takeWhile_cons, h 0 b (by omega) rfl, if_pos rfl, List.length_cons]
    rw [tw_stop (l := l) (j := j) (fun i c hi hc => h (i + 1) c (by omega) (by simpa using hc)) (by simpa using e) f]
theorem tw_all {p : Int → Bool} : ∀ {l : List Int}, (∀ (i : Nat) (b : Int), l[i]? = some b → p b = true) → l.takeWhile p = l
  | [], _ => rfl
  | b :: l, h => by
    rw [List.takeWhile_cons, h 0 b rfl, if_pos rfl, tw_all fun i c hc => h (i + 1) c (by simpa using hc)]
theorem inV_ints (p : Int) : ∀ l : List Int, inV (.int p) (l.map V.int) = decide (p ∈ l) ∧ (l.map V.int).all flatV = true
  | [] => ⟨by simp [inV], rfl⟩
  | u :: l => by
    obtain ⟨h1, h2⟩ := inV_ints p l
    refine ⟨?_, ?_⟩
    · show (eqV (.int u) (.int p) || inV (.int p) (l.map V.int)) = _
      rw [h1]
      by_cases z : u = p
      · subst z; simp [eqV]
      · have z' : ¬ p = u := fun w => z w.symm
        simp [eqV, z, z']
    · show (flatV (.int u) && (l.map V.int).all flatV) = true
      rw [h2]; rfl
def spRoomsOf (K : PySem.W.Frag) : Sp := fun vs H Q _ => ∃ (A : Hp) (x : Ad) (W : Wd) (t : Option Int), vs = [.ref x.p, oV t] ∧ At K A H x W ∧ (∀ r, t = some r → ∃ f, lk W.frames r = some f) ∧ ∀ H' p, Same H H' → H p = none → H' p = some (.lst ((path W.frames t).map V.int)) → Q (.ref p) H'
def spTop (K : PySem.W.Frag) : Sp := fun vs H Q E => ∃ (A : Hp) (x : Ad) (W : Wd) (h : Int), vs = [.ref x.p, .int h] ∧ At K A H x W ∧ (hOk W h → Q (oV (top W h)) H) ∧ (¬ hOk W h → Ref K H E .hand)
def spHeld (K : PySem.W.Frag) : Sp := fun vs H Q E => ∃ (A : Hp) (x : Ad) (W : Wd) (a : Addr) (hs : List Int), vs = [.ref x.p, .ref a] ∧ At K A H x W ∧ SqL K H a (hs.map V.int) ∧ hs.length ≤ 1000 ∧ ((∀ h ∈ hs, hOk W h) → ∀ H', Same H H' → Q (.int ((heldL W.frames (hs.map (top W))).length : Int)) H') ∧ ((∃ h ∈ hs, ¬ hOk W h) → Ref K H E .hand)
def spAlone (K : PySem.W.Frag) : Sp := fun vs H Q E => ∃ (A : Hp) (x : Ad) (W : Wd) (h : Int), vs = [.ref x.p, .int h] ∧ At K A H x W ∧ (hOk W h → ∀ H', Same H H' → Q (.int ((aloneL W.frames (path W.frames (top W h))).length : Int)) H') ∧ (¬ hOk W h → Ref K H E .hand)
def spCommon (K : PySem.W.Frag) : Sp := fun vs H Q E => ∃ (A : Hp) (x : Ad) (W : Wd) (h k : Int), vs = [.ref x.p, .int h, .int k] ∧ At K A H x W ∧ (hOk W h → hOk W k → ∀ H', Same H H' → Q (.int (((path W.frames (top W h)).filter fun r => decide (r ∈ path W.frames (top W k))).length : Int)) H') ∧ (¬ (hOk W h ∧ hOk W k) → Ref K H E .hand)
def spUsed (K : PySem.W.Frag) : Sp := fun vs H Q _ => ∃ (A : Hp) (x : Ad) (W : Wd), vs = [.ref x.p] ∧ At K A H x W ∧ ∀ H', Same H H' → Q (.int (W.frames.length : Int)) H'
theorem At.same {K : PySem.W.Frag} {A H H' : Hp} {x : Ad} {W : Wd} (I : At K A H x W) (s : Same H H') : At K A H' x W := ⟨fun b o e => s b o (I.sub b o e), I.wa, I.wf⟩
section
variable {P : Program} {w : World} {K : PySem.W.Frag} {mg : Str → Option Value} {base : Heap}
theorem ok_used (T : Txt K mg) : FnOk P w K mg base CX0 2 (aG K "used") (fdOf K (aG K "used")) ["wood"] (spUsed K) := by
  refine T.F_used.ok sc_used (fun vs H Q E h => ?_) (fun cdv A outer s H vs Q E hr h => ?_)
  · obtain ⟨_, _, _, rfl, _⟩ := h; rfl
  · obtain ⟨A, x, W, rfl, I, k⟩ := h
    refine ⟨_, PSs.nox (pss_one (ps_ret (pe_callB (call_lenK K rfl) rfl T.n_len PySem.boot_len (pa_cons (pe_meth0 (pv 0) T.cl_Wood T.m_calls (ok_Wood_calls T) (hr.mono (by decide)) T.b_Wood_calls .nil pass0) pa_nil)))), ?_⟩
    have hp := I.sub _ _ I.wa.ins
    refine ⟨_, rfl, x.p, _, _, rfl, hp, wf_no (by decide +kernel), A, x, W, rfl, I, fun H' p ts C R => ?_⟩
    refine ⟨p, _, rfl, .inl (SqL.of C.lst), ?_⟩
    rw [List.length_map, rows_len R]
    exact k H' C.same
theorem ok_top (T : Txt K mg) : FnOk P w K mg base (L2.CX P w) 2 (aG K "top") (fdOf K (aG K "top")) ["wood", "hand"] (spTop K) := by
  refine T.F_top.ok (CX := L2.CX P w) sc_top (fun vs H Q E h => ?_) (fun cdv A outer s H vs Q E hr h => ?_)
  · obtain ⟨_, _, _, _, rfl, _⟩ := h; rfl
  · obtain ⟨A, x, W, h, rfl, I, ky, kn⟩ := h
    refine ⟨_, (pss_cons (ps_expr (pe_meth (pv 0) T.cl_Wood T.m_need_hand (ok_Wood_need_hand T) (hr.mono (by decide)) T.b_Wood_need_hand .nil (passes_call (takes_of rfl rfl rfl rfl) (fun _ _ _ _ h => h)) (pa_cons (pv 1) pa_nil))) (pss_one (ps_ret (pe_ix (ix_listK K rfl) (pe_fldK K rfl (pv 0) rfl) (pv 1) (fun _ _ => rfl))))), ?_⟩
    have hp := I.sub _ _ I.wa.ins
    refine ⟨_, rfl, x.p, _, _, rfl, hp, wf_no (by decide +kernel), _, rfl, A, x, W, h, rfl, I.sub, I.wa, fun hk => ?_, fun hk => kn hk _ (Same.refl _)⟩
    exact ⟨_, rfl, x.p, _, _, _, _, rfl, hp, T.cl_Wood, T.a_tops, wf_tops, _, rfl, x.ta, _, _, _, rfl, rfl, SqL.of (I.sub _ _ I.wa.tps), atI_tops hk, ky hk⟩
theorem ok_rooms_of (T : Txt K mg) : FnOk P w K mg base CX0 2 (aG K "rooms_of") (fdOf K (aG K "rooms_of")) ["wood", "room"] (spRoomsOf K) := by
  refine T.F_rooms_of.ok sc_rooms_of (fun vs H Q E h => ?_) (fun cdv A outer s H vs Q E hr h => ?_)
  · obtain ⟨_, _, _, _, rfl, _⟩ := h; rfl
  · obtain ⟨A, x, W, t, rfl, I, ht, k⟩ := h
    refine ⟨_, PSs.nox (pss_cons (ps_set (i := 2) sc_rooms_of.nd rfl (Or.inl rfl) (pe_callTy (call_dictP rfl) rfl T.n_dict (by decide +kernel) (pa_cons (pe_lc (own := [("call", 4)]) (g := gName 4) rfl sc_rooms_of.nd (pi_listK K rfl (pe_meth0 (pv 0) T.cl_Wood T.m_calls (ok_Wood_calls T) (hr.mono (by decide)) T.b_Wood_calls .nil pass0)) (blkOk_by (own := [("call", 4)]) (N := ["wood", "room", "below", "found", "call"]) (sc := (defScope s_rooms_of)) (by decide +kernel)) (fun _ _ _ _ _ => pg_name (i := 4) sc_rooms_of.nd rfl (Or.inl rfl)) (fun _ _ _ _ _ => by exact pts_nil) (fun _ _ _ _ _ => by exact (pe_tup (pa_cons (pe_ix (ix_tupK K rfl) (pv 4) pe_int (fun _ _ => rfl)) (pa_cons (pe_ix (ix_tupK K rfl) (pv 4) pe_int (fun _ _ => rfl)) pa_nil))))) pa_nil))) (pss_cons (ps_set (i := 3) sc_rooms_of.nd rfl (Or.inl rfl) (pe_lst pa_nil)) (pss_cons (ps_while PassesOwn.never (pt_cmpR op_notN1 (pv 1) pe_non (nomark _)) (pss_cons (ps_expr (pe_bm PySem.F.plainAttrs_list PySem.F.slot_list_append PySem.F.type_list_append mt_append (pv 3) (pa_cons (pv 1) pa_nil))) (pss_one (ps_set (i := 1) sc_rooms_of.nd rfl (Or.inl rfl) (pe_dget (hu_of hr) (pv 2) (pv 1) (fun _ _ => rfl)))))) (pss_one (ps_ret (pv 3)))))), ?_⟩
    have hp := I.sub _ _ I.wa.ins
    have F := I.wf
    have hpath := F.wf.path t ht
    generalize el : path W.frames t = l at hpath k
    have hlen : l.length ≤ 40 := Nat.le_trans hpath.len F.len
    refine ⟨_, rfl, x.p, _, _, rfl, hp, wf_no (by decide +kernel), A, x, W, rfl, I, fun H1 c ts C R => ?_⟩
    have tl : ts.length ≤ 40 := by rw [rows_len R]; exact F.len
    refine ⟨c, rfl, ⟨_, SqL.of C.lst⟩, fun D nD => ?_⟩
    refine lc_list (K := K) (a := c) (xs := ts.map fun t => V.ref t.1) (fun i H' => ∃ ps : List Addr, H' D = some (.lst (ps.map V.ref)) ∧ Paired (fun p kv => H' p = some (.tup [kV kv.1, kv.2])) ps (mkG (fun f => oV f.below) (ts.take i)) ∧ Same H1 H') ⟨[], upd_same, .nil, same_new nD _⟩ (fun i H' _ ⟨_, _, _, e⟩ => SqL.of (e _ _ C.lst)) ?_ ?_
    · rintro i v H' hi ⟨ps, h1, h2, h3⟩
      obtain ⟨t', et, rfl⟩ : ∃ t', ts[i]? = some t' ∧ v = V.ref t'.1 := by
        rw [List.getElem?_map] at hi
        cases e : ts[i]? with
        | none => rw [e] at hi; cases hi
        | some r => rw [e] at hi; exact ⟨r, rfl, (Option.some.inj hi).symm⟩
      have hr1 := h3 _ _ (C.rows t' (List.mem_of_getElem? et)).1
      refine ⟨rfl, yesT rfl ?_⟩
      refine ⟨_, rfl, t'.1, _, _, _, rfl, rfl, SqT.of hr1, atI_nat (j := 0) rfl, _, rfl, t'.1, _, _, _, rfl, rfl, SqT.of hr1, atI_nat (j := 1) rfl, by show 2 ≤ sizeLine; exact sz (by omega), fun q nq => ?_⟩
      have lps : ps.length = i := by
        have := h2.length
        unfold mkG at this
        have hil : i < ts.length := by
          rcases Nat.lt_or_ge i ts.length with z | z
          · exact z
          · rw [List.getElem?_eq_none z] at et; cases et
        rw [List.length_map, List.length_take] at this; omega
      have hil2 : i < ts.length := by
        rcases Nat.lt_or_ge i ts.length with z | z
        · exact z
        · rw [List.getElem?_eq_none z] at et; cases et
      have nDq : D ≠ q := ne_of_none h1 nq
      refine ⟨_, (upd_ne nDq).trans h1, szl (by rw [List.length_map]; omega), ps ++ [q], by rw [upd_same, List.map_append]; rfl, ?_, fun b o e => ?_⟩
      · have e1 : mkG (fun f => oV f.below) (ts.take (i + 1)) = mkG (fun f => oV f.below) (ts.take i) ++ [(Sum.inl t'.2.2.1, oV t'.2.2.2.below)] := by
          unfold mkG; rw [take_snocC et, List.map_append]; rfl
        rw [e1]
        have old : Paired (fun p kv => upd (upd H' q (.tup [V.int t'.2.2.1, oV t'.2.2.2.below])) D (.lst (ps.map V.ref ++ [V.ref q])) p = some (.tup [kV kv.1, kv.2])) ps (mkG (fun f => oV f.below) (ts.take i)) := L2.Paired.mapP h2 fun p kv e => by
          rw [upd_ne (ne_of e h1 (by intro z; cases z)), upd_ne (ne_of_none e nq)]; exact e
        exact paired_snoc old (by rw [upd_ne nDq.symm]; exact upd_same)
      · have := h3 _ _ e
        rw [upd_ne (ne_of_none e nD), upd_ne (ne_of_none this nq)]; exact this
    · rintro H2 ⟨ps, h1, h2, h3⟩
      rw [List.length_map, List.take_length] at h2
      refine ⟨D, ps, _, rfl, SqL.of h1, L2.Paired.mapP h2 fun p kv e => SqT.of e, fun d nd' => ?_⟩
      have e2 := h3.trans (same_new nd' (.dK (mergeK [] (mkG (fun f => oV f.below) ts))))
      refine ⟨Nat.zero_le _, fun p np => ?_⟩
      have hd : upd H2 d (.dK (mergeK [] (mkG (fun f => oV f.below) ts))) d = some _ := upd_same
      generalize upd H2 d (.dK (mergeK [] (mkG (fun f => oV f.below) ts))) = H3 at e2 hd np
      have sH : Same H H3 := C.same.trans e2
      refine ⟨fun m σ H' => ∃ (pre : List Int) (y : Option Int) (post : List Int) (u : Option V), σ = [some (.ref x.p), some (oV y), some (.ref d), some (.ref p), u] ∧ H' = upd H3 p (.lst (pre.map V.int)) ∧ Path W.frames y post ∧ l = pre ++ post ∧ m = post.length, ⟨l.length, [], t, l, _, rfl, rfl, hpath, rfl, rfl⟩, ?_⟩
      rintro m σ H' ⟨pre, y, post, u, rfl, rfl, hy, el2, rfl⟩
      refine ⟨_, rfl, rfl, _, rfl, ?_⟩
      cases hy with
      | nil =>
        refine iteF ⟨_, rfl, ?_⟩
        rw [List.append_nil] at el2
        subst el2
        exact k _ p (sH.trans (same_new np _)) (sH.free np) upd_same
      | @cons q f post e hy =>
        refine iteT ⟨fun σ' H' => ∃ (pre' : List Int) (y : Option Int) (post' : List Int) (u : Option V), σ' = [some (.ref x.p), some (oV y), some (.ref d), some (.ref p), u] ∧ H' = upd H3 p (.lst (pre'.map V.int)) ∧ Path W.frames y post' ∧ l = pre' ++ post' ∧ post'.length = post.length, fun σ' H' ⟨pre', y, post', u, a1, a2, a3, a4, a5⟩ => ⟨post'.length, by rw [a5]; simp, pre', y, post', u, a1, a2, a3, a4, rfl⟩, ?_⟩
        refine ⟨_, rfl, .inl ⟨rfl, _, SqL.of upd_same⟩, _, rfl, p, _, _, rfl, rfl, upd_same, szl (by rw [List.length_map]; rw [el2] at hlen; rw [List.length_append] at hlen; omega), ?_⟩
        rw [upd_upd]
        have hd2 : upd H3 p (.lst (pre.map V.int ++ [V.int q])) d = some _ := (upd_ne (ne_of_none hd np)).trans hd
        have gd : DGet (upd H3 p (.lst (pre.map V.int ++ [V.int q]))) d (V.int q) (some (oV f.below)) := by
          have := DGet.k (k := Sum.inl q) hd2
          rw [rows_get F R _ e] at this; exact this
        refine ⟨_, rfl, _, rfl, d, _, rfl, gd, ?_⟩
        exact ⟨pre ++ [q], f.below, post, _, rfl, by rw [List.map_append]; rfl, hy, by rw [el2]; simp, rfl⟩
theorem ok_held (T : Txt K mg) : FnOk P w K mg base (L2.CX P w) 3 (aG K "held") (fdOf K (aG K "held")) ["wood", "some"] (spHeld K) := by
  refine T.F_held.ok (CX := L2.CX P w) sc_held (fun vs H Q E h => ?_) (fun cdv A outer s H vs Q E hr h => ?_)
  · obtain ⟨_, _, _, _, _, rfl, _⟩ := h; rfl
  · obtain ⟨A, x, W, a, hs, rfl, I, hq, hl, ky, kn⟩ := h
    refine ⟨_, (pss_cons (ps_set (i := 2) sc_held.nd rfl (Or.inl rfl) pe_dnewK) (pss_cons (ps_for (passes_of rfl) rfl (pi_listK K rfl (pv 1)) (pg_name (i := 3) sc_held.nd rfl (Or.inl rfl)) (pss_one (ps_for (passes_of rfl) rfl (pi_listK K rfl (pe_call (ok_rooms_of T) (hr.mono (by decide)) rfl T.g_rooms_of T.F_rooms_of.kp T.b_rooms_of .nil pass0 (pa_cons (pv 0) (pa_cons (pe_call (ok_top T) (hr.mono (by decide)) rfl T.g_top T.F_top.kp T.b_top .nil (passes_call (takes_of rfl rfl rfl rfl) (fun _ _ _ _ h => h)) (pa_cons (pv 0) (pa_cons (pv 3) pa_nil))) pa_nil)))) (pg_name (i := 4) sc_held.nd rfl (Or.inl rfl)) (pss_one (ps_dput (hu_of hr) (pv 2) (pv 4) pe_bl rfl))))) (pss_one (ps_ret (pe_callB call_lenDK rfl T.n_len PySem.boot_len (pa_cons (pv 2) pa_nil)))))), ?_⟩
    have F := I.wf
    have pl : ∀ t ∈ hs.map (top W), (path W.frames t).length ≤ 40 := fun t ht => by
      obtain ⟨h, _, rfl⟩ := List.mem_map.mp ht
      exact Nat.le_trans (F.tpath h).len F.len
    refine fun d nd => ?_
    have e1 := same_new nd (.dK [])
    refine ⟨_, rfl, a, rfl, ⟨_, e1.seq hq⟩, ?_⟩
    refine for_list (K := K) (a := a) (xs := hs.map V.int) (fun i σ H' => ∃ u3 u4 : Option V, σ = [some (.ref x.p), some (.ref a), some (.ref d), u3, u4] ∧ Same H H' ∧ (∀ h ∈ hs.take i, hOk W h) ∧ H' d = some (.dK (mkU (heldL W.frames ((hs.take i).map (top W)))))) ⟨none, none, rfl, e1, by simp, upd_same⟩ (fun i σ H' _ ⟨_, _, _, e, _⟩ => e.seq hq) ?_ ?_
    · rintro i v σ H' hi ⟨u3, u4, rfl, e, ok, hd⟩
      obtain ⟨h, er, rfl⟩ : ∃ r, hs[i]? = some r ∧ v = V.int r := by
        rw [List.getElem?_map] at hi
        cases e : hs[i]? with
        | none => rw [e] at hi; cases hi
        | some r => rw [e] at hi; exact ⟨r, rfl, (Option.some.inj hi).symm⟩
      have I' := I.same e
      refine ⟨_, rfl, _, rfl, _, rfl, A, x, W, h, rfl, I', fun hk => ?_, fun hk => ?_⟩
      · refine ⟨A, x, W, top W h, rfl, I', F.topIn h, fun H2 p e2 np hp => ?_⟩
        have hd2 := e2 _ _ hd
        refine ⟨p, rfl, ⟨_, SqL.of hp⟩, ?_⟩
        have tk : heldL W.frames ((hs.take (i + 1)).map (top W)) = (path W.frames (top W h)).foldl addU (heldL W.frames ((hs.take i).map (top W))) := by
          rw [take_snocC er, List.map_append]; exact heldL_snoc _ _ _
        have l1 := heldL_len (fs := W.frames) (ts := (hs.take i).map (top W)) fun t ht => pl t (by
          obtain ⟨h, hh, rfl⟩ := List.mem_map.mp ht
          exact List.mem_map.mpr ⟨h, List.mem_of_mem_take hh, rfl⟩)
        have l2 := Nat.le_trans (F.tpath h).len F.len
        rw [List.length_map, List.length_take] at l1
        have ndp : d ≠ p := ne_of_none hd np
        refine for_list (K := K) (a := p) (xs := (path W.frames (top W h)).map V.int) (fun j σ H' => ∃ u4 : Option V, σ = [some (.ref x.p), some (.ref a), some (.ref d), some (.int h), u4] ∧ Same H H' ∧ H' p = some (.lst ((path W.frames (top W h)).map V.int)) ∧ H' d = some (.dK (mkU (((path W.frames (top W h)).take j).foldl addU (heldL W.frames ((hs.take i).map (top W))))))) ⟨u4, rfl, e.trans e2, hp, hd2⟩ (fun j σ H' _ ⟨_, _, _, e, _⟩ => SqL.of e) ?_ ?_
        · rintro j v σ H3 hj ⟨u4, rfl, e3, hp3, hd3⟩
          obtain ⟨r, er2, rfl⟩ : ∃ r, (path W.frames (top W h))[j]? = some r ∧ v = V.int r := by
            rw [List.getElem?_map] at hj
            cases e : (path W.frames (top W h))[j]? with
            | none => rw [e] at hj; cases hj
            | some r => rw [e] at hj; exact ⟨r, rfl, (Option.some.inj hj).symm⟩
          have l3 := addUs_len ((path W.frames (top W h)).take j) (heldL W.frames ((hs.take i).map (top W)))
          rw [List.length_take] at l3
          refine ⟨_, rfl, _, rfl, d, _, rfl, DPut.k (k := Sum.inl r) hd3 (szl (by unfold mkU; rw [List.length_map]; omega)), ?_⟩
          refine ⟨_, rfl, fun b o eb => ?_, ?_, ?_⟩
          · rw [upd_ne (ne_of_none eb nd)]; exact e3 b o eb
          · rw [upd_ne ndp.symm]; exact hp3
          · rw [upd_same, take_snocC er2, List.foldl_append]
            show some (HO.dK (putK _ (Sum.inl r) _)) = _
            rw [putK_mkU]; rfl
        · rintro σ H3 ⟨u4, rfl, e3, hp3, hd3⟩
          rw [List.length_map, List.take_length] at hd3
          refine ⟨_, _, rfl, e3, fun z hz => ?_, by rw [tk]; exact hd3⟩
          rw [take_snocC er] at hz
          rcases List.mem_append.mp hz with q | q
          · exact ok z q
          · have : z = h := by simpa using q
            rw [this]; exact hk
      · have := kn ⟨h, List.mem_of_getElem? er, hk⟩
        exact fun H2 e2 => this H2 (e.trans e2)
    · rintro σ H' ⟨u3, u4, rfl, e, ok, hd⟩
      rw [List.length_map, List.take_length] at hd ok
      refine ⟨_, rfl, d, _, rfl, hd, ?_⟩
      have : (mkU (heldL W.frames (hs.map (top W)))).length = (heldL W.frames (hs.map (top W))).length := by unfold mkU; rw [List.length_map]
      rw [this]
      exact ky ok H' e
theorem ok_common (T : Txt K mg) : FnOk P w K mg base (L2.CX P w) 3 (aG K "common") (fdOf K (aG K "common")) ["wood", "hand", "other"] (spCommon K) := by
  refine T.F_common.ok (CX := L2.CX P w) sc_common (fun vs H Q E h => ?_) (fun cdv A outer s H vs Q E hr h => ?_)
  · obtain ⟨_, _, _, _, _, rfl, _⟩ := h; rfl
  · obtain ⟨A, x, W, h, g, rfl, I, ky, kn⟩ := h
    refine ⟨_, (pss_cons (ps_set (i := 3) sc_common.nd rfl (Or.inl rfl) (pe_call (ok_rooms_of T) (hr.mono (by decide)) rfl T.g_rooms_of T.F_rooms_of.kp T.b_rooms_of .nil pass0 (pa_cons (pv 0) (pa_cons (pe_call (ok_top T) (hr.mono (by decide)) rfl T.g_top T.F_top.kp T.b_top .nil (passes_call (takes_of rfl rfl rfl rfl) (fun _ _ _ _ h => h)) (pa_cons (pv 0) (pa_cons (pv 1) pa_nil))) pa_nil)))) (pss_cons (ps_set (i := 4) sc_common.nd rfl (Or.inr rfl) (pe_call (ok_rooms_of T) (hr.mono (by decide)) rfl T.g_rooms_of T.F_rooms_of.kp T.b_rooms_of .nil pass0 (pa_cons (pv 0) (pa_cons (pe_call (ok_top T) (hr.mono (by decide)) rfl T.g_top T.F_top.kp T.b_top .nil (passes_call (takes_of rfl rfl rfl rfl) (fun _ _ _ _ h => h)) (pa_cons (pv 0) (pa_cons (pv 2) pa_nil))) pa_nil)))) (pss_one (ps_ret (pe_callB (call_lenK K rfl) rfl T.n_len PySem.boot_len (pa_cons (pe_lc (own := [("room", 5)]) (g := gName 5) rfl sc_common.nd (pi_listK K rfl (pv 3)) (blkOk_by (own := [("room", 5)]) (N := ["wood", "hand", "other", "mine", "theirs", "room"]) (sc := (defScope s_common)) (by decide +kernel)) (fun _ _ _ _ _ => pg_name (i := 5) sc_common.nd rfl (Or.inl rfl)) (fun _ _ _ _ _ => by exact (pts_one (pt_cmpR (op_in_seqK K rfl) (pv 5) (pv 4) rfl))) (fun _ _ _ _ _ => by exact (pv 5))) pa_nil)))))), ?_⟩
    have F := I.wf
    refine ⟨_, rfl, _, rfl, _, rfl, A, x, W, h, rfl, I, fun hk => ?_, fun hk => kn fun z => hk z.1⟩
    refine ⟨A, x, W, top W h, rfl, I, F.topIn h, fun H1 p e1 np hp => ?_⟩
    have I1 := I.same e1
    refine ⟨_, rfl, _, rfl, _, rfl, A, x, W, g, rfl, I1, fun hg => ?_, fun hg => ?_⟩
    · refine ⟨A, x, W, top W g, rfl, I1, F.topIn g, fun H2 q e2 nq hq => ?_⟩
      have ky' := ky hk hg
      have hl1 := Nat.le_trans (F.tpath h).len F.len
      have hp2 := e2 _ _ hp
      generalize path W.frames (top W h) = l at hp hp2 ky' hl1
      generalize path W.frames (top W g) = m at hq ky'
      refine ⟨_, rfl, p, rfl, ⟨_, SqL.of hp2⟩, fun D nD => ?_⟩
      refine lc_list (K := K) (a := p) (xs := l.map V.int) (fun i H' => H' D = some (.lst (((l.take i).filter fun r => decide (r ∈ m)).map V.int)) ∧ Same H2 H') ⟨upd_same, same_new nD _⟩ (fun i H' _ ⟨_, e⟩ => SqL.of (e _ _ hp2)) ?_ ?_
      · rintro i v H' hi ⟨h1, h3⟩
        obtain ⟨r, er, rfl⟩ : ∃ r, l[i]? = some r ∧ v = V.int r := by
          rw [List.getElem?_map] at hi
          cases e : l[i]? with
          | none => rw [e] at hi; cases hi
          | some r => rw [e] at hi; exact ⟨r, rfl, (Option.some.inj hi).symm⟩
        refine ⟨rfl, ?_⟩
        have e4 : (l.take (i + 1)).filter (fun r => decide (r ∈ m)) = (l.take i).filter (fun r => decide (r ∈ m)) ++ if r ∈ m then [r] else [] := by
          rw [take_snocC er, List.filter_append]
          by_cases z : r ∈ m <;> simp [z]
        have l5 := Nat.le_trans (List.length_filter_le (fun r => decide (r ∈ m)) (l.take i)) (by rw [List.length_take]; omega : _ ≤ 40)
        obtain ⟨z1, z2⟩ := inV_ints r m
        refine ⟨_, rfl, _, rfl, q, _, rfl, .inl (SqL.of (h3 _ _ hq)), rfl, z2, _, rfl, ?_⟩
        by_cases z : r ∈ m
        · refine ifT (by simp [z1, z]) ?_
          refine ⟨_, rfl, _, h1, szl (by rw [List.length_map]; omega), by rw [upd_same, e4, if_pos z, List.map_append]; rfl, fun b o e => by rw [upd_ne (ne_of_none e nD)]; exact h3 _ _ e⟩
        · refine ifF (by simp [z1, z]) ?_
          exact ⟨by rw [e4, if_neg z, List.append_nil]; exact h1, h3⟩
      · rintro H3 ⟨h1, h3⟩
        rw [List.length_map, List.take_length] at h1
        refine ⟨D, _, rfl, .inl (SqL.of h1), ?_⟩
        rw [List.length_map]
        exact ky' H3 ((e1.trans e2).trans h3)
    · have := kn fun z => hg z.2
      exact fun H5 e5 => this H5 (e1.trans e5)
end
end Sk
end
section
/-! SwL2: whether two things are alike; a deed is done. -/
namespace Sk
open PySem PySem.Spec PyProof.Rows L2 SW
/-- two things told alike, at most n deep -/
inductive Eqv (K : PySem.W.Frag) (H : Hp) : Nat → V → V → Prop
  | non (n : Nat) : Eqv K H n .non .non
  | int (n : Nat) (i : Int) : Eqv K H n (.int i) (.int i)
  | str (n : Nat) (x : Str) : Eqv K H n (.str x) (.str x)
  | lst (n : Nat) {a b : Addr} {xs ys : List V} : SqL K H a xs → SqL K H b ys → xs.length = ys.length → xs.length ≤ 100000 → (∀ (i : Nat) (x y : V), xs[i]? = some x → ys[i]? = some y → Eqv K H n x y) → Eqv K H (n + 1) (.ref a) (.ref b)
  | tup (n : Nat) {a b : Addr} {xs ys : List V} : SqT K H a xs → SqT K H b ys → xs.length = ys.length → xs.length ≤ 100000 → (∀ (i : Nat) (x y : V), xs[i]? = some x → ys[i]? = some y → Eqv K H n x y) → Eqv K H (n + 1) (.ref a) (.ref b)
/-- what a deed tells -/
inductive Res
  | int (n : Int)
  | non
  | lst (zs : List Int)
def okM {α β : Type} (r : Except Er α) (f : α → β) : Except Er β := match r with
  | .error e => .error e
  | .ok a => .ok (f a)
def doDeed (W : Wd) : Deed → Except Er (Res × Wd)
  | .call h vs => okM (doCall W h vs) fun r => (.int r.1, r.2)
  | .back h => okM (doBack W h) fun r => (.lst r.1, r.2)
  | .put h d s v => okM (doPut W h d s v) fun r => (.int r.1, r.2)
  | .branch h o => okM (doBranch W h o) fun r => (.non, r)
  | .keep h => okM (doKeep W h) fun r => (.int r.1, r.2)
  | .leap h p => okM (doLeap W h p) fun r => (.non, r)
  | .forget p => okM (doForget W p) fun r => (.non, r)
/-- the value that tells it; a list is new since H -/
def ResAt (H H' : Hp) (v : V) : Res → Prop
  | .int n => v = .int n
  | .non => v = .non
  | .lst zs => ∃ l, v = .ref l ∧ H l = none ∧ H' l = some (.lst (zs.map V.int))
def spDoes (K : PySem.W.Frag) : Sp := fun vs H Q E => ∃ (A : Hp) (x : Ad) (W : Wd) (t : Addr) (D : Deed), vs = [.ref x.p, .ref t] ∧ At K A H x W ∧ DeedAt H t D ∧ W.marks.length ≤ 10000 ∧
  match doDeed W D with
  | .error e => Ref K H E e
  | .ok (r, W') => ∀ A' x' H' v, x'.p = x.p → WA K A' x' W' → Stp A H A' H' → ResAt H H' v r → (∀ l, v = .ref l → A' l = none) → Q v H'
def spLike (K : PySem.W.Frag) (n : Nat) : Sp := fun vs H Q _ => ∃ u v : V, vs = [u, v] ∧ Eqv K H n u v ∧ Q (.bl true) H
theorem tyx_list {K : PySem.W.Frag} {H : Hp} {a : Addr} {xs : List V} (h : SqL K H a xs) : TyX K H (.ref a) (.type "list") := by
  rcases h with (h | ⟨o, h⟩) | ⟨o, its, n, h1, h2, _⟩
  · exact .base (.lst h)
  · exact .base (.frz h)
  · exact .kList h1 h2
theorem tyx_tup {K : PySem.W.Frag} {H : Hp} {a : Addr} {xs : List V} (h : SqT K H a xs) : TyX K H (.ref a) (.type "tuple") := by
  rcases h with (h | ⟨o, h⟩) | ⟨o, its, n, h1, h2, _⟩
  · exact .base (.tup h)
  · exact .fTuple h
  · exact .kTuple h1 h2
/-- isinstance's reading, of a built-in class -/
theorem isi {K : PySem.W.Frag} {H : Hp} {Q : VK} {x : V} {s t : String} {b : Bool} (ty : TyX K H x (.type s)) (k : kitB s t = some b) (q : Q (.bl b) H) : rIsi K [x, .ty t] H Q :=
  ⟨x, .ty t, _, _, b, rfl, .ty t, ty, kit_ty k, q⟩
section
variable {P : Program} {w : World} {K : PySem.W.Frag} {mg : Str → Option Value} {base : Heap}
end
end Sk
end
section
/-! SwL3: what is told by a work that may be refused. -/
namespace Sk
open PySem PySem.Spec PyProof.Rows L2 SW
/-- told(lambda: ..): the lambda's value, or the word of its refusal -/
def TTold (K : PySem.W.Frag) : (XK → Hp → VK → Prop) → Hp → VK → Prop := fun tl H Q =>
  tl (fun cls d H' => ∃ er : Er, ern er ∈ exN ∧ cls = eC K (ern er) ∧ d = none ∧ ∀ H'', Same H' H'' → Q (.str (ern er)) H'') H Q
/-- the answers of isinstance, one by one -/
def isL (x : Str) : List Bool := exN.map fun y => decide (x = y)
section
variable {K : PySem.W.Frag} {mg : Str → Option Value}
theorem isE {K : PySem.W.Frag} {mg : Str → Option Value} (T : Txt K mg) {H : Hp} {Q : VK} {a : Addr} {x y : Str} (hx : x ∈ exN) (hy : y ∈ exN) (q : Q (.bl (decide (x = y))) H) : rIsE K (He.ga K x) a [.ref a, .ref (He.ga K y)] H Q :=
  ⟨_, _, _, rfl, fun u h => h, T.exX x hx y hy, q⟩
def ts_told (K : PySem.W.Frag) : Addr → Value → Option Addr → TS := fun a cls d D σ H => ∃ (er : Er) (σ' : L2.St), ern er ∈ exN ∧ cls = eC K (ern er) ∧ d = none ∧ σ = σ'.set 1 (some (.ref a)) ∧ ∀ H', Same H H' → D.rt (.str (ern er)) H'
theorem call_isEK {X : Cx} {K : PySem.W.Frag} {a D : Addr} {oe : Obj} {pn : List (Addr × Obj)} (C : ExcC K D) (hz : Zc (.ref D) none oe) (hf : ∃ vs, oe.data = .fields vs) (hK : X.K = K := by rfl) : CallR (X.suite a ((a, oe) :: pn)) (.builtin "isinstance") (rIsE K D a) := by
  subst hK; exact call_isE C hz hf
theorem pss_by {X : Cx} {st : List Stmt} {t' : TS} (k : ∀ pins s σ H D, Inv X pins σ H s → t' D σ H → ∃ t : TS, PSs X st t ∧ t D σ H) : PSs X st t' :=
  ⟨fun pins s σ H D I h' => by obtain ⟨t, h, ht⟩ := k pins s σ H D I h'; exact h.run pins s σ H D I ht⟩
theorem ahead {ys : List V} {j : Nat} {y : V} (h : ((ys.take j).all fun z => !eqV z y) = true) : ∀ (m : Nat) (z' : V), m < j → ys[m]? = some z' → eqV z' y = false := fun m z' hm hz => by
  have hmem : z' ∈ ys.take j := List.mem_of_getElem? (i := m) (by rw [List.getElem?_take_of_lt hm]; exact hz)
  have := List.all_eq_true.mp h z' hmem
  simpa using this
def erJ : Er → Nat
  | .hand => 1
  | .place => 2
  | .call => 3
  | .slot => 4
  | .room => 5
end
end Sk
end
section
/-! SwN: piles of lists that stand apart; what a deed makes of them. -/
namespace Sk
open SW
structure Nl where
  piles : List (List (List Int))
  kept : List (Int × List (List Int))
  many : Int
def pile (N : Nl) (h : Int) : List (List Int) := N.piles.getD h.toNat []
def canN (N : Nl) : Deed → Bool
  | .call _ _ => true
  | .back h => !(pile N h).isEmpty
  | .put h d s _ => decide (d < ((pile N h).length : Int)) && decide (s < (((pile N h).getD d.toNat []).length : Int))
  | .branch _ _ => true
  | .keep _ => true
  | .leap _ p => has N.kept p
  | .forget p => has N.kept p
def apN (N : Nl) : Deed → Nl
  | .call h vs => { N with piles := N.piles.set h.toNat (vs :: pile N h) }
  | .back h => { N with piles := N.piles.set h.toNat ((pile N h).drop 1) }
  | .put h d s v => { N with piles := N.piles.set h.toNat ((pile N h).set d.toNat (((pile N h).getD d.toNat []).set s.toNat v)) }
  | .branch h o => { N with piles := N.piles.set o.toNat (pile N h) }
  | .keep h => { N with kept := N.kept ++ [(N.many, pile N h)], many := N.many + 1 }
  | .leap h p => { N with piles := N.piles.set h.toNat ((lk N.kept p).getD []) }
  | .forget p => { N with kept := dr N.kept p }
/-- what apart's lists say of a wood -/
def nl (W : Wd) : Nl := ⟨vals W, kept W, W.many⟩
/-- the hands of a deed are hands -/
def InD (hands : Int) : Deed → Prop
  | .call h vs => (0 ≤ h ∧ h < hands) ∧ vs.length ≤ 3
  | .back h => 0 ≤ h ∧ h < hands
  | .put h d s _ => (0 ≤ h ∧ h < hands) ∧ 0 ≤ d ∧ 0 ≤ s
  | .branch h o => (0 ≤ h ∧ h < hands) ∧ 0 ≤ o ∧ o < hands
  | .keep h => 0 ≤ h ∧ h < hands
  | .leap h _ => 0 ≤ h ∧ h < hands
  | .forget _ => True
theorem Drawn.inD {hands deep places : Int} {D : Deed} (h : Drawn hands deep places D) : InD hands D := by
  cases D with
  | call h vs => exact ⟨h.1, h.2.1⟩
  | back h => exact h
  | put h d s v => exact ⟨h.1, h.2.1.1, h.2.2.1.1⟩
  | branch h o => exact h
  | keep h => exact h
  | leap h p => exact h.1
  | forget p => trivial
theorem lk_kept (W : Wd) (p : Int) : lk (kept W) p = (lk W.marks p).map (vl W.frames) := by
  unfold kept
  generalize W.frames = fs
  induction W.marks with
  | nil => rfl
  | cons a l ih =>
    obtain ⟨j, x⟩ := a
    by_cases e : j = p
    · simp [lk, e]
    · simp only [List.map_cons, lk, if_neg e]; exact ih
theorem has_kept (W : Wd) (p : Int) : has (kept W) p = has W.marks p := by
  unfold has; rw [lk_kept]; cases lk W.marks p <;> rfl
theorem ks_kept (W : Wd) : ks (kept W) = ks W.marks := by
  unfold kept ks; rw [List.map_map]; rfl
theorem len_kept (W : Wd) : (kept W).length = W.marks.length := by unfold kept; rw [List.length_map]
theorem len_vals (W : Wd) : (vals W).length = W.tops.length := by unfold vals; rw [List.length_map]
theorem pile_nl {W : Wd} {h : Int} (k : hOk W h) : pile (nl W) h = vl W.frames (top W h) := by
  show (vals W).getD h.toNat [] = _
  unfold vals
  rw [List.getD_eq_getElem?_getD, List.getElem?_map, top_get k]; rfl
theorem vl_len {W : Wd} (F : WFW W) {x : Option Int} (hx : ∀ r, x = some r → ∃ f, lk W.frames r = some f) : (vl W.frames x).length ≤ 40 := by
  unfold vl; rw [List.length_map]
  exact Nat.le_trans (F.wf.path x hx).len F.len
/-- a refusal of what can be done is for want of rooms, at a call or a put -/
def Dear : Deed → Bool
  | .call _ _ => true
  | .put _ _ _ _ => true
  | _ => false
/-- what came of it -/
structure Did (W : Wd) (D : Deed) (r : Res) (W' : Wd) : Prop where
  wf : WFW W'
  nl : nl W' = apN (nl W) D
  tops : W'.tops.length = W.tops.length
  back : ∀ h, D = .back h → ∃ vs t, r = .lst vs ∧ pile (Sk.nl W) h = vs :: t
def Dids (W : Wd) (D : Deed) (x : Except Er (Res × Wd)) : Prop := match x with
  | .error e => e = .room ∧ Dear D = true
  | .ok (r, W') => Did W D r W'
theorem Nl.ext' {a b : Nl} (h1 : a.piles = b.piles) (h2 : a.kept = b.kept) (h3 : a.many = b.many) : a = b := by
  cases a; cases b; simp_all
theorem len_set {W W' : Wd} {i : Nat} {z : List (List Int)} (h : vals W' = (vals W).set i z) : W'.tops.length = W.tops.length := by
  have := congrArg List.length h
  rw [List.length_set, len_vals, len_vals] at this; exact this
theorem did {W : Wd} (F : WFW W) {D : Deed} (hD : InD (W.tops.length : Int) D) (c : canN (nl W) D = true) : Dids W D (doDeed W D) := by
  cases D with
  | call h vs =>
    have k : hOk W h := hD.1
    have k3 := hD.2
    cases e : doCall W h vs with
    | error x =>
      simp only [doDeed, e, okM, Dids]
      refine ⟨?_, rfl⟩
      unfold doCall at e
      rw [if_neg (fun z => z k), if_neg (by omega)] at e
      split at e
      · cases e; rfl
      · cases e
    | ok q =>
      obtain ⟨r, W'⟩ := q
      simp only [doDeed, e, okM, Dids]
      obtain ⟨_, f, h1, h2, _, h4, _⟩ := doCall_ok F e
      exact ⟨f, Nl.ext' (by show vals W' = _; rw [h1, ← pile_nl k]; rfl) h2 h4, len_set h1, fun h z => by cases z⟩
  | back h =>
    have k : hOk W h := hD
    have c : (!(pile (nl W) h).isEmpty) = true := c
    cases e : doBack W h with
    | error x =>
      exfalso
      unfold doBack at e
      rw [if_neg (fun z => z k)] at e
      rw [pile_nl k] at c
      cases et : top W h with
      | none => rw [et, vl_nil] at c; simp at c
      | some r =>
        obtain ⟨f, hf⟩ := F.topIn h r et
        rw [et] at e; simp only [hf] at e; cases e
    | ok q =>
      obtain ⟨vs, W'⟩ := q
      simp only [doDeed, e, okM, Dids]
      obtain ⟨_, f, ⟨t, ht, h1⟩, h2, h4, _⟩ := doBack_ok F e
      refine ⟨f, Nl.ext' (by show vals W' = (vals W).set h.toNat ((pile (nl W) h).drop 1); rw [h1, pile_nl k, ht]; rfl) h2 h4, len_set h1, fun h' z => ?_⟩
      cases z
      exact ⟨vs, t, rfl, by rw [pile_nl k]; exact ht⟩
  | put h d s v =>
    have k : hOk W h := hD.1
    have c : (decide (d < ((pile (nl W) h).length : Int)) && decide (s < (((pile (nl W) h).getD d.toNat []).length : Int))) = true := c
    rw [Bool.and_eq_true, decide_eq_true_eq, decide_eq_true_eq, pile_nl k] at c
    cases e : doPut W h d s v with
    | error x =>
      simp only [doDeed, e, okM, Dids]
      refine ⟨?_, rfl⟩
      have lv : (vl W.frames (top W h)).length = (path W.frames (top W h)).length := by unfold vl; rw [List.length_map]
      have hd := hD.2.1
      have hs := hD.2.2
      unfold doPut doWay at e
      rw [if_neg (fun z => z k), if_neg (fun z => z ⟨hd, by omega⟩)] at e
      simp only at e
      have dn : d.toNat < (path W.frames (top W h)).length := by omega
      have qd : ((path W.frames (top W h)).take (d.toNat + 1)).getD d.toNat 0 = (path W.frames (top W h))[d.toNat] := by
        rw [List.getD_eq_getElem?_getD, List.getElem?_take_of_lt (by omega), List.getElem?_eq_getElem dn]; rfl
      have vd : (vl W.frames (top W h)).getD d.toNat [] = sl W.frames (path W.frames (top W h))[d.toNat] := by
        unfold vl
        rw [List.getD_eq_getElem?_getD, List.getElem?_map, List.getElem?_eq_getElem dn]; rfl
      rw [vd] at c
      rw [qd, if_neg (fun z => z ⟨hs, c.2⟩)] at e
      split at e
      · cases e
      · split at e
        · cases e; rfl
        · cases e
    | ok q =>
      obtain ⟨n, W'⟩ := q
      simp only [doDeed, e, okM, Dids]
      have P := doPut_ok F e
      exact ⟨P.wfw, Nl.ext' (by show vals W' = _; rw [P.vals, ← pile_nl k]; rfl) P.kept P.many, len_set P.vals, fun h z => by cases z⟩
  | branch h o =>
    obtain ⟨k, k2⟩ : hOk W h ∧ hOk W o := hD
    cases e : doBranch W h o with
    | error x =>
      exfalso
      unfold doBranch at e
      rw [if_neg (fun z => z k), if_neg (fun z => z k2)] at e; cases e
    | ok W' =>
      simp only [doDeed, e, okM, Dids]
      obtain ⟨_, _, f, h1, h2, h4⟩ := doBranch_ok F e
      exact ⟨f, Nl.ext' (by show vals W' = _; rw [h1, ← pile_nl k]; rfl) h2 h4, len_set h1, fun h z => by cases z⟩
  | keep h =>
    have k : hOk W h := hD
    cases e : doKeep W h with
    | error x =>
      exfalso
      unfold doKeep at e
      rw [if_neg (fun z => z k)] at e; cases e
    | ok q =>
      obtain ⟨n, W'⟩ := q
      simp only [doDeed, e, okM, Dids]
      obtain ⟨_, rfl, _, f, h1, h2, h4⟩ := doKeep_ok F e
      refine ⟨f, Nl.ext' h1 (by show kept W' = _; rw [h2, ← pile_nl k]; rfl) h4, ?_, fun h z => by cases z⟩
      rw [← len_vals, h1, len_vals]
  | leap h p =>
    have k : hOk W h := hD
    have c : has (kept W) p = true := c
    rw [has_kept] at c
    obtain ⟨y, hy⟩ := has_true.mp c
    cases e : doLeap W h p with
    | error x =>
      exfalso
      unfold doLeap at e
      rw [if_neg (fun z => z k), hy] at e; cases e
    | ok W' =>
      simp only [doDeed, e, okM, Dids]
      obtain ⟨_, x, hx, f, h1, h2, h4⟩ := doLeap_ok F e
      refine ⟨f, Nl.ext' ?_ h2 h4, len_set h1, fun h z => by cases z⟩
      show vals W' = (vals W).set h.toNat ((lk (kept W) p).getD [])
      rw [h1, lk_kept, hx]; rfl
  | forget p =>
    have c : has (kept W) p = true := c
    rw [has_kept] at c
    obtain ⟨y, hy⟩ := has_true.mp c
    cases e : doForget W p with
    | error x =>
      exfalso
      unfold doForget at e
      rw [hy] at e; cases e
    | ok W' =>
      simp only [doDeed, e, okM, Dids]
      obtain ⟨x, hx, _, f, h1, h2, h4⟩ := doForget_ok F e
      refine ⟨f, Nl.ext' h1 h2 h4, ?_, fun h z => by cases z⟩
      rw [← len_vals, h1, len_vals]
end Sk
end
section
/-! SwP: parts of a heap side by side; the law's lists in their part. -/
namespace Sk
open PySem PySem.Spec PyProof.Rows L2 SW
/-! ### two lists, item by item -/
inductive F2 {α β : Type} (R : α → β → Prop) : List α → List β → Prop
  | nil : F2 R [] []
  | cons {a : α} {b : β} {xs : List α} {ys : List β} : R a b → F2 R xs ys → F2 R (a :: xs) (b :: ys)
section
variable {α β : Type} {R S : α → β → Prop} {xs : List α} {ys : List β}
theorem F2.len (h : F2 R xs ys) : xs.length = ys.length := by
  induction h with
  | nil => rfl
  | cons _ _ ih => simp [ih]
theorem F2.imp (h : F2 R xs ys) (k : ∀ a ∈ xs, ∀ b ∈ ys, R a b → S a b) : F2 S xs ys := by
  induction h with
  | nil => exact .nil
  | cons r _ ih => exact .cons (k _ (by simp) _ (by simp) r) (ih fun a ha b hb => k a (by simp [ha]) b (by simp [hb]))
theorem F2.get (h : F2 R xs ys) : ∀ {i : Nat} {b : β}, ys[i]? = some b → ∃ a, xs[i]? = some a ∧ R a b := by
  induction h with
  | nil => intro i b e; simp at e
  | cons r _ ih =>
    intro i b e
    cases i with
    | zero => exact ⟨_, rfl, by simpa using (by simpa using e : _ = b) ▸ r⟩
    | succ n => simpa using ih (by simpa using e)
theorem F2.get1 (h : F2 R xs ys) : ∀ {i : Nat} {a : α}, xs[i]? = some a → ∃ b, ys[i]? = some b ∧ R a b := by
  induction h with
  | nil => intro i b e; simp at e
  | cons r _ ih =>
    intro i b e
    cases i with
    | zero => exact ⟨_, rfl, by simpa using (by simpa using e : _ = b) ▸ r⟩
    | succ n => simpa using ih (by simpa using e)
theorem F2.set (h : F2 R xs ys) : ∀ (i : Nat) {a : α} {b : β}, R a b → F2 R (xs.set i a) (ys.set i b) := by
  induction h with
  | nil => intro i a b r; exact .nil
  | cons r0 h ih =>
    intro i a b r
    cases i with
    | zero => exact .cons r h
    | succ n => exact .cons r0 (ih n r)
theorem F2.snoc (h : F2 R xs ys) {a : α} {b : β} (r : R a b) : F2 R (xs ++ [a]) (ys ++ [b]) := by
  induction h with
  | nil => exact .cons r .nil
  | cons r0 _ ih => exact .cons r0 ih
end
/-- items with keys -/
theorem F2.ks {α β : Type} {R : α → β → Prop} {l : List (Int × α)} {m : List (Int × β)} (h : F2 (fun q r => q.1 = r.1 ∧ R q.2 r.2) l m) : ks l = ks m := by
  induction h with
  | nil => rfl
  | cons r _ ih => simp only [SW.ks, List.map_cons, r.1] at ih ⊢; rw [ih]
theorem F2.lk {α β : Type} {R : α → β → Prop} {l : List (Int × α)} {m : List (Int × β)} (h : F2 (fun q r => q.1 = r.1 ∧ R q.2 r.2) l m) {k : Int} {v : β} (e : lk m k = some v) : ∃ a, SW.lk l k = some a ∧ R a v := by
  induction h with
  | nil => cases e
  | @cons a b xs ys r _ ih =>
    obtain ⟨j, x⟩ := a
    obtain ⟨j', y⟩ := b
    obtain ⟨r1, r2⟩ := r
    have r1 : j = j' := r1
    subst r1
    by_cases z : j = k
    · simp only [SW.lk, if_pos z] at e ⊢; cases e; exact ⟨x, rfl, r2⟩
    · simp only [SW.lk, if_neg z] at e ⊢; exact ih e
theorem F2.lk0 {α β : Type} {R : α → β → Prop} {l : List (Int × α)} {m : List (Int × β)} (h : F2 (fun q r => q.1 = r.1 ∧ R q.2 r.2) l m) {k : Int} (e : SW.lk m k = none) : SW.lk l k = none := by
  have := h.ks
  rw [← not_mem_ks] at e ⊢; rw [this]; exact e
theorem F2.dr {α β : Type} {R : α → β → Prop} {l : List (Int × α)} {m : List (Int × β)} (h : F2 (fun q r => q.1 = r.1 ∧ R q.2 r.2) l m) (k : Int) : F2 (fun q r => q.1 = r.1 ∧ R q.2 r.2) (dr l k) (dr m k) := by
  induction h with
  | nil => exact .nil
  | @cons a b xs ys r _ ih =>
    unfold SW.dr at ih ⊢
    by_cases z : a.1 = k
    · rw [List.filter_cons, List.filter_cons, if_neg (by simpa using z), if_neg (by rw [← r.1]; simpa using z)]; exact ih
    · rw [List.filter_cons, List.filter_cons, if_pos (by simpa using z), if_pos (by rw [← r.1]; simpa using z)]; exact .cons r ih
/-! ### parts -/
def Apart (A B : Hp) : Prop := ∀ b, A b = none ∨ B b = none
theorem Apart.symm {A B : Hp} (h : Apart A B) : Apart B A := fun b => (h b).symm
theorem Stp.side {A H A' H' B : Hp} (s : Stp A H A' H') (hB : Sub B H) (ap : Apart A B) : Sub B H' ∧ Apart A' B := by
  refine ⟨fun b o e => ?_, fun b => ?_⟩
  · rcases ap b with z | z
    · exact s.oth b o (hB b o e) z
    · rw [z] at e; cases e
  · rcases ap b with z | z
    · cases q : A' b with
      | none => exact .inl rfl
      | some u =>
        have := s.new b z (by rw [q]; simp)
        cases w : B b with
        | none => exact .inr rfl
        | some o => rw [hB b o w] at this; cases this
    · exact .inr z
theorem Sub.same {B H H' : Hp} (h : Sub B H) (s : Same H H') : Sub B H' := fun b o e => s b o (h b o e)
theorem Sub.kp {B H H' : Hp} {d : Addr} (h : Sub B H) (k : Kp d H H') (n : B d = none) : Sub B H' := fun b o e => k b o (fun z => by rw [z, n] at e; cases e) (h b o e)
/-- all that is new is the part's -/
def grow (B H H' : Hp) : Hp := fun b => match H b with
  | none => H' b
  | some _ => B b
theorem grow_old {B H H' : Hp} (s : Sub B H) {b : Addr} {o : HO} (e : B b = some o) : grow B H H' b = some o := by
  unfold grow; rw [s b o e]; exact e
theorem grow_new {B H H' : Hp} {b : Addr} (n : H b = none) : grow B H H' b = H' b := by
  unfold grow; rw [n]
theorem Stp.grow {B H B1 H1 H2 : Hp} (s : Stp B H B1 H1) (k : Same H1 H2) : Stp B H (grow B1 H1 H2) H2 where
  own := fun b o e => by
    cases q : H1 b with
    | none => rw [grow_new q] at e; exact e
    | some u =>
      have : Sk.grow B1 H1 H2 b = B1 b := by unfold Sk.grow; rw [q]
      rw [this] at e; exact k _ _ (s.own b o e)
  oth := fun b o e n => k _ _ (s.oth b o e n)
  new := fun b n m => by
    cases q : H1 b with
    | none =>
      cases w : H b with
      | none => rfl
      | some o => rw [s.oth b o w n] at q; cases q
    | some u =>
      have : Sk.grow B1 H1 H2 b = B1 b := by unfold Sk.grow; rw [q]
      rw [this] at m; exact s.new b n m
/-! ### the law's lists -/
structure Nx where
  n : Addr
  pa : Addr
  ka : Addr
  ps : List Addr
  qs : List (Int × Addr)
def mkR (qs : List (Int × Addr)) : List (Key × V) := qs.map fun q => (Sum.inl q.1, V.ref q.2)
def nDc (pa ka : Addr) (m : Int) : List (Key × V) := [(Sum.inr "piles", .ref pa), (Sum.inr "kept", .ref ka), (Sum.inr "many", .int m)]
/-- a list of lists, none of which stands at pa -/
def LV (B : Hp) (pa p : Addr) (v : List (List Int)) : Prop := p ≠ pa ∧ ∃ cs, LL B p cs ∧ cs.map (·.2) = v ∧ ∀ c ∈ cs, c.1 ≠ pa
structure NA (B : Hp) (x : Nx) (N : Nl) : Prop where
  nd : B x.n = some (.dK (nDc x.pa x.ka N.many))
  pl : B x.pa = some (.lst (x.ps.map V.ref))
  kd : B x.ka = some (.dK (mkR x.qs))
  nk : x.n ≠ x.ka
  pv : F2 (LV B x.pa) x.ps N.piles
  kv : F2 (fun q r => q.1 = r.1 ∧ LV B x.pa q.2 r.2) x.qs N.kept
theorem LV.up {B B' : Hp} {pa p : Addr} {v : List (List Int)} (h : LV B pa p v) (k : ∀ b xs, b ≠ pa → B b = some (.lst xs) → B' b = some (.lst xs)) : LV B' pa p v := by
  obtain ⟨n, cs, ⟨l1, l2⟩, e, nc⟩ := h
  exact ⟨n, cs, ⟨k _ _ n l1, fun c hc => k _ _ (nc c hc) (l2 c hc)⟩, e, nc⟩
theorem NA.up {B B' : Hp} {x : Nx} {N : Nl} (h : NA B x N) (k : ∀ b o, B b = some o → B' b = some o) : NA B' x N :=
  ⟨k _ _ h.nd, k _ _ h.pl, k _ _ h.kd, h.nk, h.pv.imp fun _ _ _ _ r => r.up fun b xs _ e => k _ _ e, h.kv.imp fun _ _ _ _ r => ⟨r.1, r.2.up fun b xs _ e => k _ _ e⟩⟩
theorem NA.setPile {B : Hp} {x : Nx} {N : Nl} (h : NA B x N) (i : Nat) {p : Addr} {v : List (List Int)} (r : LV B x.pa p v) : NA (upd B x.pa (.lst ((x.ps.set i p).map V.ref))) { x with ps := x.ps.set i p } { N with piles := N.piles.set i v } := by
  have k : ∀ b xs, b ≠ x.pa → B b = some (.lst xs) → upd B x.pa (.lst ((x.ps.set i p).map V.ref)) b = some (.lst xs) := fun b xs n e => by rw [upd_ne n]; exact e
  refine ⟨?_, upd_same, ?_, h.nk, ?_, h.kv.imp fun _ _ _ _ r => ⟨r.1, r.2.up k⟩⟩
  · rw [upd_ne (ne_of h.nd h.pl (by intro z; cases z))]; exact h.nd
  · rw [upd_ne (ne_of h.kd h.pl (by intro z; cases z))]; exact h.kd
  · exact (h.pv.imp (S := LV (upd B x.pa (.lst ((x.ps.set i p).map V.ref))) x.pa) fun _ _ _ _ r => r.up k).set i (r.up k)
theorem NA.setKept {B : Hp} {x : Nx} {N : Nl} (h : NA B x N) {qs : List (Int × Addr)} {kp : List (Int × List (List Int))} (r : F2 (fun q r => q.1 = r.1 ∧ LV B x.pa q.2 r.2) qs kp) : NA (upd B x.ka (.dK (mkR qs))) { x with qs := qs } { N with kept := kp } := by
  have k : ∀ b xs, b ≠ x.pa → B b = some (.lst xs) → upd B x.ka (.dK (mkR qs)) b = some (.lst xs) := fun b xs _ e => by rw [upd_ne (ne_of e h.kd (by intro z; cases z))]; exact e
  refine ⟨?_, ?_, upd_same, h.nk, h.pv.imp fun _ _ _ _ r => r.up k, r.imp fun _ _ _ _ r => ⟨r.1, r.2.up k⟩⟩
  · rw [upd_ne h.nk]; exact h.nd
  · rw [upd_ne (ne_of h.pl h.kd (by intro z; cases z))]; exact h.pl
theorem NA.setMany {B : Hp} {x : Nx} {N : Nl} (h : NA B x N) (m : Int) : NA (upd B x.n (.dK (nDc x.pa x.ka m))) x { N with many := m } := by
  have k : ∀ b xs, b ≠ x.pa → B b = some (.lst xs) → upd B x.n (.dK (nDc x.pa x.ka m)) b = some (.lst xs) := fun b xs _ e => by rw [upd_ne (ne_of e h.nd (by intro z; cases z))]; exact e
  refine ⟨upd_same, ?_, ?_, h.nk, h.pv.imp fun _ _ _ _ r => r.up k, h.kv.imp fun _ _ _ _ r => ⟨r.1, r.2.up k⟩⟩
  · rw [upd_ne (ne_of h.pl h.nd (by intro z; cases z))]; exact h.pl
  · rw [upd_ne h.nk.symm]; exact h.kd
theorem valV_mkR (qs : List (Int × Addr)) (k : Int) : valV (mkR qs) (Sum.inl k) = (lk qs k).map V.ref := by
  induction qs with
  | nil => rfl
  | cons p l ih =>
    obtain ⟨j, a⟩ := p
    by_cases e : j = k
    · subst e
      simp [mkR, lk, valV]
    · have z : valV (mkR ((j, a) :: l)) (Sum.inl k) = valV (mkR l) (Sum.inl k) := valV_neg (p := (Sum.inl j, V.ref a)) (by simpa using e)
      rw [z, ih]; simp [lk, e]
theorem putK_mkR {qs : List (Int × Addr)} {k : Int} (p : Addr) (h : lk qs k = none) : putK (mkR qs) (Sum.inl k) (.ref p) = mkR (qs ++ [(k, p)]) := by
  rw [putK_new _ (by rw [valV_mkR, h]; rfl)]
  unfold mkR
  rw [List.map_append]; rfl
theorem dropK_mkR (qs : List (Int × Addr)) (k : Int) : dropK (mkR qs) (Sum.inl k) = mkR (dr qs k) := by
  unfold dropK mkR dr
  rw [List.filter_map]
  congr 1
  apply List.filter_congr
  intro a _
  simp
theorem key_pm : ¬ (Sum.inr (Str.ofString "piles") : Key) = Sum.inr (Str.ofString "many") := by decide +kernel
theorem key_km : ¬ (Sum.inr (Str.ofString "kept") : Key) = Sum.inr (Str.ofString "many") := by decide +kernel
theorem key_pk : ¬ (Sum.inr (Str.ofString "piles") : Key) = Sum.inr (Str.ofString "kept") := by decide +kernel
theorem nD_piles (pa ka : Addr) (m : Int) : valV (nDc pa ka m) (Sum.inr "piles") = some (.ref pa) := valV_pos rfl
theorem nD_kept (pa ka : Addr) (m : Int) : valV (nDc pa ka m) (Sum.inr "kept") = some (.ref ka) := by
  unfold nDc; rw [valV_neg key_pk]; exact valV_pos rfl
theorem nD_many (pa ka : Addr) (m : Int) : valV (nDc pa ka m) (Sum.inr "many") = some (.int m) := by
  unfold nDc; rw [valV_neg key_pm, valV_neg key_km]; exact valV_pos rfl
theorem nD_put (pa ka : Addr) (m m' : Int) : putK (nDc pa ka m) (Sum.inr "many") (.int m') = nDc pa ka m' := by
  unfold putK
  rw [valV_any, nD_many, if_pos (by rfl)]
  unfold nDc
  simp only [List.map_cons, List.map_nil, if_neg key_pm, if_neg key_km, if_pos]
end Sk
end
section
/-! SwL4: the law's lists, in the heap. -/
namespace Sk
open PySem PySem.Spec PyProof.Rows L2 SW
section
variable (K : PySem.W.Frag)
def spLists : Sp := fun vs H Q _ => ∃ hands : Int, vs = [.int hands] ∧ (0 ≤ hands ∧ hands ≤ 6) ∧ ∀ H' x, Same H H' → NA (grow (fun _ => none) H H') x ⟨List.replicate hands.toNat [], [], 0⟩ → Q (.ref x.n) H'
def spSizes : Sp := fun vs H Q _ => ∃ (B : Hp) (x : Nx) (N : Nl), vs = [.ref x.n] ∧ Sub B H ∧ NA B x N ∧ (1 ≤ N.piles.length ∧ N.piles.length ≤ 6) ∧ (∀ v ∈ N.piles, v.length ≤ 40) ∧
  ∀ H' t deep, Same H H' → 0 ≤ deep → deep ≤ 40 → H' t = some (.tup [.int N.piles.length, .int deep, .int N.many]) → Q (.ref t) H'
def spCan : Sp := fun vs H Q _ => ∃ (B : Hp) (x : Nx) (N : Nl) (t : Addr) (D : Deed), vs = [.ref x.n, .ref t] ∧ Sub B H ∧ NA B x N ∧ DeedAt H t D ∧ InD (N.piles.length : Int) D ∧ ∀ H', Same H H' → Q (.bl (canN N D)) H'
def spApart : Sp := fun vs H Q _ => ∃ (B : Hp) (x : Nx) (N : Nl) (t : Addr) (D : Deed), vs = [.ref x.n, .ref t] ∧ Sub B H ∧ NA B x N ∧ DeedAt H t D ∧ InD (N.piles.length : Int) D ∧ canN N D = true ∧ lk N.kept N.many = none ∧ N.kept.length ≤ 10000 ∧ (∀ v ∈ N.piles, v.length ≤ 40) ∧ (∀ q ∈ N.kept, q.2.length ≤ 40) ∧
  ∀ B' x' H', x'.n = x.n → NA B' x' (apN N D) → Stp B H B' H' → Q .non H'
end
theorem nodup_idx {α : Type} {l : List α} (nd : l.Nodup) {i j : Nat} {a : α} (h : l[i]? = some a) (k : l[j]? = some a) : i = j := by
  have hi : i < l.length := by
    rcases Nat.lt_or_ge i l.length with q | q
    · exact q
    · rw [List.getElem?_eq_none q] at h; cases h
  exact (List.getElem?_inj hi nd).mp (h.trans k.symm)
theorem _root_.List.set_getElem?_self' {α : Type} {l : List α} {i : Nat} {a : α} (h : l[i]? = some a) : l.set i a = l := by
  apply List.ext_getElem?
  intro j
  by_cases q : i = j
  · subst q
    rw [List.getElem?_set]
    split
    · split
      · exact h.symm
      · rename_i w; rw [List.getElem?_eq_none (by omega)]
    · rename_i w; exact absurd rfl w
  · rw [List.getElem?_set_ne q]
theorem take_snocA {α : Type} {l : List α} {i : Nat} {r : α} (h : l[i]? = some r) : l.take (i + 1) = l.take i ++ [r] := by
  rw [List.take_add_one, h]; rfl
theorem LL.up {H H' : Hp} {p : Addr} {cs : List (Addr × List Int)} (h : LL H p cs) (s : ∀ b o, H b = some o → H' b = some o) : LL H' p cs := ⟨s _ _ h.1, fun c hc => s _ _ (h.2 c hc)⟩
theorem NA.grown {B H H' : Hp} {x : Nx} {N : Nl} (R : NA B x N) (s : Sub B H) (_ : Same H H') : NA (grow B H H') x N := R.up fun _ _ e => grow_old s e
theorem pileAt {N : Nl} {h : Int} (hh : 0 ≤ h ∧ h < (N.piles.length : Int)) : N.piles[h.toNat]? = some (pile N h) := by
  unfold pile; rw [List.getD_eq_getElem?_getD, List.getElem?_eq_getElem (by omega)]; rfl
theorem pileIn {N : Nl} {h : Int} (hh : 0 ≤ h ∧ h < (N.piles.length : Int)) : pile N h ∈ N.piles := List.mem_of_getElem? (pileAt hh)
theorem cut1 (xs : List V) : cutV xs (some 1) none = xs.drop 1 := by
  unfold cutV
  have e1 : HT.sIx xs.length xs.length none = xs.length := HT.sIx_none _ _
  have e2 : HT.sIx xs.length 0 (some 1) = min 1 xs.length := by
    have : (1 : Int) = ((1 : Nat) : Int) := rfl
    rw [this, HT.sIx_nat]
  rw [e1, e2]
  rcases Nat.lt_or_ge 0 xs.length with q | q
  · rw [Nat.min_eq_left q, List.take_of_length_le (by rw [List.length_drop]; omega)]
  · have : xs = [] := List.length_eq_zero_iff.mp (by omega)
    subst this; rfl
theorem lv_new {B H H0 H' : Hp} {D pa : Addr} {v : List (List Int)} {ds : List (Addr × List Int)} (s : Sub B H) (e0 : Same H H0) (N : NewLL H0 H' D v ds) {o : HO} (hp : B pa = some o) : LV (grow B H H') pa D v := by
  have hp0 := e0 _ _ (s _ _ hp)
  refine ⟨(ne_of_none hp0 N.np).symm, ds, ⟨?_, fun c hc => ?_⟩, N.vals, fun c hc => (ne_of_none hp0 (N.nc c hc)).symm⟩
  · rw [grow_new (e0.free N.np)]; exact N.ll.1
  · rw [grow_new (e0.free (N.nc c hc))]; exact N.ll.2 c hc
theorem NewLL.setIn {H H' : Hp} {p : Addr} {vs : List (List Int)} {cs : List (Addr × List Int)} (N : NewLL H H' p vs cs) {i : Nat} {c : Addr × List Int} (e : cs[i]? = some c) (z : List Int) : NewLL H (upd H' c.1 (.lst (z.map V.int))) p (vs.set i z) (cs.set i (c.1, z)) := by
  have hi : i < cs.length := by
    rcases Nat.lt_or_ge i cs.length with q | q
    · exact q
    · rw [List.getElem?_eq_none q] at e; cases e
  have hm := List.mem_of_getElem? e
  obtain ⟨nd1, nd2⟩ := List.nodup_cons.mp N.nd
  have f1 : (cs.set i (c.1, z)).map (·.1) = cs.map (·.1) := by
    rw [List.map_set]
    exact List.set_getElem?_self' (by rw [List.getElem?_map, e]; rfl)
  refine ⟨fun b o h => ?_, N.np, ⟨?_, fun a ha => ?_⟩, ?_, ?_, fun a ha => ?_⟩
  · rw [upd_ne (ne_of_none h (N.nc c hm))]; exact N.same b o h
  · have : (cs.set i (c.1, z)).map (fun c => V.ref c.1) = cs.map fun c => V.ref c.1 := by
      have := congrArg (List.map V.ref) f1
      simpa [List.map_map, Function.comp_def] using this
    rw [this, upd_ne (fun q => nd1 (List.mem_map.mpr ⟨c, hm, q.symm⟩))]
    exact N.ll.1
  · obtain ⟨j, ej⟩ := List.mem_iff_getElem?.mp ha
    by_cases q : i = j
    · subst q
      rw [List.getElem?_set_self hi] at ej
      cases ej
      exact upd_same
    · rw [List.getElem?_set_ne q] at ej
      have n : a.1 ≠ c.1 := fun w => q (nodup_idx nd2 (by rw [List.getElem?_map, e]; rfl) (by rw [List.getElem?_map, ej]; exact congrArg some w))
      rw [upd_ne n]
      exact N.ll.2 a (List.mem_of_getElem? ej)
  · rw [List.map_set, N.vals]
  · rw [f1]; exact N.nd
  · obtain ⟨j, ej⟩ := List.mem_iff_getElem?.mp ha
    by_cases q : i = j
    · subst q
      rw [List.getElem?_set_self hi] at ej
      cases ej
      exact N.nc c hm
    · rw [List.getElem?_set_ne q] at ej
      exact N.nc a (List.mem_of_getElem? ej)
theorem dp_ll {K : PySem.W.Frag} {H : Hp} {p : Addr} {cs : List (Addr × List Int)} (h : LL H p cs) : Dp K H (.ref p) (.list (cs.map fun c => .list (c.2.map PyData.int))) := by
  obtain ⟨h1, h2⟩ := h
  refine .lst (SqL.of h1) ?_
  clear h1
  induction cs with
  | nil => exact .nil
  | cons a l ih => exact .cons (dp_ints (h2 a (by simp))) (ih fun c hc => h2 c (by simp [hc]))
theorem lay_ll (l : List (Addr × List Int)) : PyData.canLayAll0 (l.map fun c => PyData.list (c.2.map PyData.int)) = true ∧ PyData.depthAll (l.map fun c => PyData.list (c.2.map PyData.int)) ≤ 2 := by
  induction l with
  | nil => exact ⟨by simp [PyData.canLayAll0], by simp [PyData.depthAll]⟩
  | cons a l ih =>
    have z := lay_ints a.2
    refine ⟨by simp [PyData.canLayAll0, PyData.canLay0, ih.1, z.1], ?_⟩
    simp only [List.map_cons, PyData.depthAll, PyData.depth]
    omega
theorem shaped_ll (l : List (Addr × List Int)) : SeqAt.shaped (.list (l.map fun c => .list (c.2.map PyData.int))) = true := by
  have := lay_ll l
  have e1 : (PyData.list (l.map fun c => .list (c.2.map PyData.int))).canLay0 = true := by simp only [PyData.canLay0]; exact this.1
  have e2 : (PyData.list (l.map fun c => .list (c.2.map PyData.int))).depth ≤ 64 := by
    have z : (PyData.list (l.map fun c => .list (c.2.map PyData.int))).depth = PyData.depthAll (l.map fun c => PyData.list (c.2.map PyData.int)) + 1 := by simp only [PyData.depth]
    omega
  simp [SeqAt.shaped, e1, e2]
theorem get_piles {H : Hp} {x : Nx} {N : Nl} (h : H x.n = some (.dK (nDc x.pa x.ka N.many))) : DGet H x.n (V.str "piles") (some (.ref x.pa)) := by
  have := DGet.k (k := Sum.inr "piles") h
  rw [nD_piles] at this; exact this
theorem get_kept {H : Hp} {x : Nx} {N : Nl} (h : H x.n = some (.dK (nDc x.pa x.ka N.many))) : DGet H x.n (V.str "kept") (some (.ref x.ka)) := by
  have := DGet.k (k := Sum.inr "kept") h
  rw [nD_kept] at this; exact this
theorem get_many {H : Hp} {x : Nx} {N : Nl} (h : H x.n = some (.dK (nDc x.pa x.ka N.many))) : DGet H x.n (V.str "many") (some (.int N.many)) := by
  have := DGet.k (k := Sum.inr "many") h
  rw [nD_many] at this; exact this
section
variable {P : Program} {w : World} {K : PySem.W.Frag} {mg : Str → Option Value} {base : Heap}
end
end Sk
end
section
/-! SwW: three parts side by side, beside the tables of code objects. -/
namespace Sk
open PySem PySem.Spec PyProof.Rows L2 SW
/-- no table, no code object -/
def Pl (A : Hp) : Prop := ∀ b o, A b = some o → (∀ ps, o ≠ .tbl ps) ∧ ∀ f, o ≠ .ext f
def pl (A : Hp) : Hp := fun b => match A b with
  | some (.tbl _) => none
  | some (.ext _) => none
  | x => x
theorem pl_of {A : Hp} {b : Addr} {o : HO} (h : pl A b = some o) : A b = some o ∧ (∀ ps, o ≠ .tbl ps) ∧ ∀ f, o ≠ .ext f := by
  unfold pl at h
  split at h
  · cases h
  · cases h
  · rename_i n1 n2
    exact ⟨h, fun ps z => n1 ps (by rw [h, z]), fun f z => n2 f (by rw [h, z])⟩
theorem pl_pl (A : Hp) : Pl (pl A) := fun b o h => (pl_of h).2
theorem pl_to {A : Hp} {b : Addr} {o : HO} (h : A b = some o) (n1 : ∀ ps, o ≠ .tbl ps) (n2 : ∀ f, o ≠ .ext f) : pl A b = some o := by
  unfold pl
  split
  · rename_i e; exact absurd (Option.some.inj (h.symm.trans e)) (n1 _)
  · rename_i e; exact absurd (Option.some.inj (h.symm.trans e)) (n2 _)
  · exact h
theorem Pl.tbl {A : Hp} (h : Pl A) {H : Hp} (s : Sub A H) {b : Addr} {ps : Array Value} (e : H b = some (.tbl ps)) : A b = none := by
  cases q : A b with
  | none => rfl
  | some o => exact absurd (Option.some.inj ((s b o q).symm.trans e)) ((h b o q).1 ps)
theorem Pl.ext {A : Hp} (h : Pl A) {H : Hp} (s : Sub A H) {b : Addr} {f : Heap → Prop} (e : H b = some (.ext f)) : A b = none := by
  cases q : A b with
  | none => rfl
  | some o => exact absurd (Option.some.inj ((s b o q).symm.trans e)) ((h b o q).2 f)
theorem tabs_by {T : List (Addr × Str)} {H H' : Hp} (t : LamX.Tabs T H) (h1 : ∀ b ps, H b = some (.tbl ps) → H' b = some (.tbl ps)) (h2 : ∀ b f, H b = some (.ext f) → H' b = some (.ext f)) : LamX.Tabs T H' := fun p hp => by
  obtain ⟨ps, e1, e2, e3⟩ := t p hp
  refine ⟨ps, h1 _ _ e1, e2, fun pos cv hc => ?_⟩
  obtain ⟨c, q1, q2⟩ := e3 pos cv hc
  exact ⟨c, q1, h2 _ _ q2⟩
theorem tabs_kp {T : List (Addr × Str)} {H H' : Hp} {d a : Addr} (t : LamX.Tabs T H) (k : Kp d H H') (D : Dice H d a) : LamX.Tabs T H' := by
  obtain ⟨_, _, _, _, _, hd⟩ := D
  exact tabs_by t (fun b ps q => k b _ (fun z => by rw [z, hd] at q; cases q) q) (fun b f q => k b _ (fun z => by rw [z, hd] at q; cases q) q)
structure Wld (T : List (Addr × Str)) (H A B C : Hp) : Prop where
  sA : Sub A H
  sB : Sub B H
  sC : Sub C H
  ab : Apart A B
  ac : Apart A C
  bc : Apart B C
  pA : Pl A
  pB : Pl B
  pC : Pl C
  tb : LamX.Tabs T H
section
variable {T : List (Addr × Str)} {H H' A B C A' B' C' : Hp}
theorem Wld.same (w : Wld T H A B C) (s : Same H H') : Wld T H' A B C :=
  ⟨w.sA.same s, w.sB.same s, w.sC.same s, w.ab, w.ac, w.bc, w.pA, w.pB, w.pC, w.tb.ext s⟩
theorem Wld.ext (w : Wld T H A B C) (s : LamX.ExtN H H') (t : LamX.Tabs T H') : Wld T H' A B C :=
  ⟨fun b o e => s b o (w.sA b o e) (w.pA b o e).1, fun b o e => s b o (w.sB b o e) (w.pB b o e).1, fun b o e => s b o (w.sC b o e) (w.pC b o e).1, w.ab, w.ac, w.bc, w.pA, w.pB, w.pC, t⟩
theorem Apart.pl (h : Apart A B) : Apart (pl A) B := fun b => by
  rcases h b with z | z
  · refine .inl ?_
    unfold Sk.pl; rw [z]
  · exact .inr z
theorem Sub.pl (h : Sub A H) : Sub (pl A) H := fun b o e => h b o (pl_of e).1
theorem Wld.stA (w : Wld T H A B C) (s : Stp A H A' H') : Wld T H' (pl A') B C := by
  obtain ⟨b1, b2⟩ := s.side w.sB w.ab
  obtain ⟨c1, c2⟩ := s.side w.sC w.ac
  exact ⟨s.own.pl, b1, c1, b2.pl, c2.pl, w.bc, pl_pl _, w.pB, w.pC,
    tabs_by w.tb (fun b ps e => s.oth b _ e (w.pA.tbl w.sA e)) (fun b f e => s.oth b _ e (w.pA.ext w.sA e))⟩
theorem Wld.swap (w : Wld T H A B C) : Wld T H B A C := ⟨w.sB, w.sA, w.sC, w.ab.symm, w.bc, w.ac, w.pB, w.pA, w.pC, w.tb⟩
theorem Wld.stB (w : Wld T H A B C) (s : Stp B H B' H') : Wld T H' A (pl B') C := (w.swap.stA s).swap
/-- the cell at d moves -/
def setC (C : Hp) (d : Addr) (o : HO) : Hp := upd C d o
theorem Wld.cell (w : Wld T H A B C) {d : Addr} {xs ys : List V} (k : Kp d H H') (e : C d = some (.lst xs)) (e' : H' d = some (.lst ys)) : Wld T H' A B (upd C d (.lst ys)) := by
  have dA : A d = none := by
    rcases w.ac d with z | z
    · exact z
    · rw [e] at z; cases z
  have dB : B d = none := by
    rcases w.bc d with z | z
    · exact z
    · rw [e] at z; cases z
  refine ⟨w.sA.kp k dA, w.sB.kp k dB, fun b o q => ?_, w.ab, fun b => ?_, fun b => ?_, w.pA, w.pB, fun b o q => ?_, ?_⟩
  · by_cases z : b = d
    · subst z; rw [upd_same] at q; cases q; exact e'
    · rw [upd_ne z] at q; exact k b o z (w.sC b o q)
  · by_cases z : b = d
    · subst z; exact .inl dA
    · rw [upd_ne z]; exact w.ac b
  · by_cases z : b = d
    · subst z; exact .inl dB
    · rw [upd_ne z]; exact w.bc b
  · by_cases z : b = d
    · subst z; rw [upd_same] at q; cases q; exact ⟨fun ps z => by (cases z), fun f z => by (cases z)⟩
    · rw [upd_ne z] at q; exact w.pC b o q
  · have hd := w.sC d _ e
    refine tabs_by w.tb (fun b ps q => k b _ (fun z => by rw [z, hd] at q; cases q) q) (fun b f q => k b _ (fun z => by rw [z, hd] at q; cases q) q)
end
/-- the dice and the script in their part -/
structure Die (K : PySem.W.Frag) (C : Hp) (d a : Addr) (ns : List Int) : Prop where
  dice : Dice C d a
  scr : SqL K C a (ns.map V.int)
theorem Dice.up {H H' : Hp} {d a : Addr} (D : Dice H d a) (s : Sub H H') : Dice H' d a := by
  obtain ⟨n, i, m, r, h, e⟩ := D
  exact ⟨n, i, m, r, h, s _ _ e⟩
theorem Die.dH {K : PySem.W.Frag} {C H : Hp} {d a : Addr} {ns : List Int} (D : Die K C d a ns) (s : Sub C H) : Dice H d a := D.dice.up s
theorem Die.sH {K : PySem.W.Frag} {C H : Hp} {d a : Addr} {ns : List Int} (D : Die K C d a ns) (s : Sub C H) : SqL K H a (ns.map V.int) := Same.seq (fun b o e => s b o e) D.scr
/-- behind draws -/
theorem Wld.drawn {K : PySem.W.Frag} {T : List (Addr × Str)} {H H' A B C : Hp} (w : Wld T H A B C) {d a : Addr} {ns : List Int} (D : Die K C d a ns) (k : Kp d H H') (D' : Dice H' d a) : ∃ C', Wld T H' A B C' ∧ Die K C' d a ns := by
  obtain ⟨n, i, m, r, h, e⟩ := D.dice
  obtain ⟨_, i', m', r', h', e'⟩ := D'
  refine ⟨_, w.cell k e e', ⟨n, i', m', r', h', upd_same⟩, ?_⟩
  exact sq_upd D.scr e n
theorem WA.plain {K : PySem.W.Frag} {A : Hp} {x : Ad} {W : Wd} (R : WA K A x W) : WA K (pl A) x W := by
  have up : ∀ {b : Addr} {o : HO}, A b = some o → (∀ ps, o ≠ .tbl ps) → (∀ f, o ≠ .ext f) → pl A b = some o := fun h n1 n2 => pl_to h n1 n2
  exact ⟨up R.ins (fun _ z => by cases z) (fun _ z => by cases z), up R.frs (fun _ z => by cases z) (fun _ z => by cases z), up R.tps (fun _ z => by cases z) (fun _ z => by cases z), up R.mks (fun _ z => by cases z) (fun _ z => by cases z),
    fun r f h => up (R.fr r f h) (fun _ z => by cases z) (fun _ z => by cases z), fun r f h => up (R.sl r f h) (fun _ z => by cases z) (fun _ z => by cases z), R.fi, R.si, R.st, R.dm, R.pf⟩
theorem NA.plain {B : Hp} {x : Nx} {N : Nl} (R : NA B x N) : NA (Sk.pl B) x N := by
  have lv : ∀ {p : Addr} {v : List (List Int)}, LV B x.pa p v → LV (Sk.pl B) x.pa p v := fun h => h.up fun b xs _ e => pl_to e (fun _ z => by cases z) (fun _ z => by cases z)
  exact ⟨pl_to R.nd (fun _ z => by cases z) (fun _ z => by cases z), pl_to R.pl (fun _ z => by cases z) (fun _ z => by cases z), pl_to R.kd (fun _ z => by cases z) (fun _ z => by cases z), R.nk, R.pv.imp fun _ _ _ _ r => lv r, R.kv.imp fun _ _ _ _ r => ⟨r.1, lv r.2⟩⟩
/-- a wood made beside dice -/
theorem Wld.first {T : List (Addr × Str)} {H A B C : Hp} (sA : Sub A H) (sB : Sub B H) (sC : Sub C H) (ab : Apart A B) (ac : Apart A C) (bc : Apart B C) (t : LamX.Tabs T H) : Wld T H (pl A) (pl B) (pl C) :=
  ⟨sA.pl, sB.pl, sC.pl, (ab.pl.symm.pl).symm, (ac.pl.symm.pl).symm, (bc.pl.symm.pl).symm, pl_pl _, pl_pl _, pl_pl _, t⟩
theorem SqL.plain {K : PySem.W.Frag} {C : Hp} {a : Addr} {xs : List V} (h : SqL K C a xs) : SqL K (pl C) a xs := by
  rcases h with (h | ⟨o, h⟩) | h
  · exact .inl (.inl (pl_to h (fun _ z => by cases z) (fun _ z => by cases z)))
  · exact .inl (.inr ⟨o, pl_to h (fun _ z => by cases z) (fun _ z => by cases z)⟩)
  · exact .inr h
/-- the cells of the dice alone -/
def diC (H : Hp) (d a : Addr) : Hp := fun b => if b = d ∨ b = a then H b else none
theorem diC_sub (H : Hp) (d a : Addr) : Sub (diC H d a) H := fun b o e => by
  unfold diC at e
  split at e
  · exact e
  · cases e
theorem diC_none {H : Hp} {d a b : Addr} (h : H b = none) : diC H d a b = none := by
  unfold diC; split
  · exact h
  · rfl
theorem diC_die {K : PySem.W.Frag} {H : Hp} {d a : Addr} {ns : List Int} (D : Dice H d a) (h : SqL K H a (ns.map V.int)) : Die K (diC H d a) d a ns := by
  obtain ⟨n, i, m, r, h0, e⟩ := D
  have ea : diC H d a a = H a := by unfold diC; rw [if_pos (.inr rfl)]
  refine ⟨⟨n, i, m, r, h0, by unfold diC; rw [if_pos (.inl rfl)]; exact e⟩, ?_⟩
  rcases h with (h | ⟨o, h⟩) | h
  · exact .inl (.inl (ea.trans h))
  · exact .inl (.inr ⟨o, ea.trans h⟩)
  · exact .inr h
theorem Die.plain {K : PySem.W.Frag} {C : Hp} {d a : Addr} {ns : List Int} (D : Die K C d a ns) : Die K (pl C) d a ns := by
  obtain ⟨n, i, m, r, h, e⟩ := D.dice
  exact ⟨⟨n, i, m, r, h, pl_to e (fun _ z => by cases z) (fun _ z => by cases z)⟩, SqL.plain D.scr⟩
end Sk
end
section
/-! SwV: what the laws' own walks share. -/
namespace Sk
open PySem PySem.Spec PyProof.Rows L2 SW
/-- the lambda's full name -/
def qLam : Str := (envOfC "law" (defScope s_law) 0 0 Value.none).qual ++ "<lambda>"
def spLaw (K : PySem.W.Frag) (P0 : Addr) : Sp := fun vs H Q _ => ∃ (a : Addr) (ns : List Int), vs = [.ref a] ∧ SqL K H a (ns.map V.int) ∧ ns.length ≤ 63 ∧ LamX.Tabs [(P0, qLam)] H ∧ ∀ H', Q (.bl true) H'
theorem eqv_ints {K : PySem.W.Frag} {H : Hp} {p q : Addr} {l : List Int} (n : Nat) (h1 : SqL K H p (l.map V.int)) (h2 : SqL K H q (l.map V.int)) (hl : l.length ≤ 100000) : Eqv K H (n + 1) (.ref p) (.ref q) := by
  refine .lst n h1 h2 rfl (by rw [List.length_map]; exact hl) fun i x y e1 e2 => ?_
  rw [e1] at e2
  cases e2
  rw [List.getElem?_map] at e1
  cases e : l[i]? with
  | none => rw [e] at e1; cases e1
  | some u => rw [e] at e1; cases e1; exact .int n u
theorem eqv_ll {K : PySem.W.Frag} {H : Hp} {p q : Addr} {cs ds : List (Addr × List Int)} (n : Nat) (h1 : LL H p cs) (h2 : LL H q ds) (e : cs.map (·.2) = ds.map (·.2)) (hl : cs.length ≤ 40) (h3 : ∀ c ∈ cs, c.2.length ≤ 100000) : Eqv K H (n + 2) (.ref p) (.ref q) := by
  have le : cs.length = ds.length := by simpa using congrArg List.length e
  refine .lst (n + 1) (SqL.of h1.1) (SqL.of h2.1) (by rw [List.length_map, List.length_map]; exact le) (by rw [List.length_map]; omega) fun i x y e1 e2 => ?_
  rw [List.getElem?_map] at e1 e2
  cases ec : cs[i]? with
  | none => rw [ec] at e1; cases e1
  | some c =>
    cases ed : ds[i]? with
    | none => rw [ed] at e2; cases e2
    | some f =>
      rw [ec] at e1; rw [ed] at e2
      cases e1; cases e2
      have e3 := congrArg (fun l => l[i]?) e
      simp only [List.getElem?_map, ec, ed, Option.map_some, Option.some.injEq] at e3
      have q1 := h1.2 c (List.mem_of_getElem? ec)
      have q2 := h2.2 f (List.mem_of_getElem? ed)
      rw [← e3] at q2
      exact eqv_ints n (SqL.of q1) (SqL.of q2) (h3 c (List.mem_of_getElem? ec))
/-- a list of lists of lists -/
def L3 (H : Hp) (p : Addr) (qs : List (Addr × List (List Int))) : Prop := H p = some (.lst (qs.map fun q => V.ref q.1)) ∧ ∀ q ∈ qs, LV H p q.1 q.2
theorem L3.up {H H' : Hp} {p : Addr} {qs : List (Addr × List (List Int))} (h : L3 H p qs) (s : ∀ b o, H b = some o → H' b = some o) : L3 H' p qs := ⟨s _ _ h.1, fun q hq => (h.2 q hq).up fun b xs _ e => s _ _ e⟩
/-- one more, new -/
theorem L3.snoc {H0 H' H'' : Hp} {D p : Addr} {qs : List (Addr × List (List Int))} {v : List (List Int)} {cs : List (Addr × List Int)} (h : L3 H' D qs) (N : NewLL H' H'' p v cs) : L3 (upd H'' D (.lst ((qs.map fun q => V.ref q.1) ++ [V.ref p]))) D (qs ++ [(p, v)]) := by
  refine ⟨by rw [upd_same, List.map_append]; rfl, fun q hq => ?_⟩
  rcases List.mem_append.mp hq with z | z
  · exact (h.2 q z).up fun b xs n e => by rw [upd_ne n]; exact N.same _ _ e
  · have : q = (p, v) := by simpa using z
    subst this
    have n1 : p ≠ D := (ne_of_none h.1 N.np).symm
    have n2 : ∀ c ∈ cs, c.1 ≠ D := fun c hc => (ne_of_none h.1 (N.nc c hc)).symm
    exact ⟨n1, cs, ⟨by rw [upd_ne n1]; exact N.ll.1, fun c hc => by rw [upd_ne (n2 c hc)]; exact N.ll.2 c hc⟩, N.vals, n2⟩
/-- one more, an old one -/
theorem L3.snocOld {H' : Hp} {D pa p : Addr} {qs : List (Addr × List (List Int))} {v : List (List Int)} (h : L3 H' D qs) (r : LV H' pa p v) (n1 : p ≠ D) (n2 : ∀ cs, LL H' p cs → ∀ c ∈ cs, c.1 ≠ D) : L3 (upd H' D (.lst ((qs.map fun q => V.ref q.1) ++ [V.ref p]))) D (qs ++ [(p, v)]) := by
  refine ⟨by rw [upd_same, List.map_append]; rfl, fun q hq => ?_⟩
  rcases List.mem_append.mp hq with z | z
  · exact (h.2 q z).up fun b xs n e => by rw [upd_ne n]; exact e
  · have : q = (p, v) := by simpa using z
    subst this
    obtain ⟨_, cs, l, e, _⟩ := r
    have n2' := n2 cs l
    exact ⟨n1, cs, ⟨by rw [upd_ne n1]; exact l.1, fun c hc => by rw [upd_ne (n2' c hc)]; exact l.2 c hc⟩, e, n2'⟩
theorem L3.upL {H H' : Hp} {p : Addr} {qs : List (Addr × List (List Int))} (h : L3 H p qs) (s : ∀ b xs, H b = some (.lst xs) → H' b = some (.lst xs)) : L3 H' p qs := ⟨s _ _ h.1, fun q hq => (h.2 q hq).up fun b xs _ e => s _ _ e⟩
/-- one more, all new since H -/
theorem L3.snocF {H H' H'' : Hp} {D p : Addr} {qs : List (Addr × List (List Int))} {v : List (List Int)} {cs : List (Addr × List Int)} (h : L3 (fresh H H') D qs) (N : NewLL H' H'' p v cs) (s : Same H H') : L3 (fresh H (upd H'' D (.lst ((qs.map fun q => V.ref q.1) ++ [V.ref p])))) D (qs ++ [(p, v)]) := by
  obtain ⟨nD, hD⟩ := fresh_to h.1
  refine ⟨fresh_of nD (by rw [upd_same, List.map_append]; rfl), fun q hq => ?_⟩
  rcases List.mem_append.mp hq with z | z
  · refine (h.2 q z).up fun b xs n e => ?_
    obtain ⟨e1, e2⟩ := fresh_to e
    exact fresh_of e1 (by rw [upd_ne n]; exact N.same _ _ e2)
  · have : q = (p, v) := by simpa using z
    subst this
    have n1 : p ≠ D := (ne_of_none hD N.np).symm
    have n2 : ∀ c ∈ cs, c.1 ≠ D := fun c hc => (ne_of_none hD (N.nc c hc)).symm
    exact ⟨n1, cs, ⟨fresh_of (s.free N.np) (by rw [upd_ne n1]; exact N.ll.1), fun c hc => fresh_of (s.free (N.nc c hc)) (by rw [upd_ne (n2 c hc)]; exact N.ll.2 c hc)⟩, N.vals, n2⟩
theorem na_l3 {B : Hp} {pa : Addr} {ps : List Addr} {vs : List (List (List Int))} (hp : B pa = some (.lst (ps.map V.ref))) (h : F2 (LV B pa) ps vs) : L3 B pa (ps.zip vs) ∧ (ps.zip vs).map (·.2) = vs := by
  have e1 : (ps.zip vs).map (·.1) = ps := by
    clear hp
    induction h with
    | nil => rfl
    | cons _ _ ih => simp [ih]
  have e2 : (ps.zip vs).map (·.2) = vs := by
    clear hp e1
    induction h with
    | nil => rfl
    | cons _ _ ih => simp [ih]
  refine ⟨⟨?_, fun q hq => ?_⟩, e2⟩
  · rw [hp, ← e1, List.map_map]; rw [e1]; rfl
  · clear hp e1 e2
    induction h with
    | nil => simp at hq
    | cons r _ ih =>
      rcases List.mem_cons.mp (by simpa using hq : q ∈ (_, _) :: _) with z | z
      · subst z; exact r
      · exact ih z
theorem eqv_l3 {K : PySem.W.Frag} {H : Hp} {p q : Addr} {us ws : List (Addr × List (List Int))} (n : Nat) (h1 : L3 H p us) (h2 : L3 H q ws) (e : us.map (·.2) = ws.map (·.2)) (hl : us.length ≤ 100000) (h3 : ∀ u ∈ us, u.2.length ≤ 40 ∧ ∀ c ∈ u.2, c.length ≤ 100000) : Eqv K H (n + 3) (.ref p) (.ref q) := by
  have le : us.length = ws.length := by simpa using congrArg List.length e
  refine .lst (n + 2) (SqL.of h1.1) (SqL.of h2.1) (by rw [List.length_map, List.length_map]; exact le) (by rw [List.length_map]; omega) fun i x y e1 e2 => ?_
  rw [List.getElem?_map] at e1 e2
  cases ec : us[i]? with
  | none => rw [ec] at e1; cases e1
  | some c =>
    cases ed : ws[i]? with
    | none => rw [ed] at e2; cases e2
    | some f =>
      rw [ec] at e1; rw [ed] at e2
      cases e1; cases e2
      have e3 := congrArg (fun l => l[i]?) e
      simp only [List.getElem?_map, ec, ed, Option.map_some, Option.some.injEq] at e3
      obtain ⟨_, cs, q1, q2, _⟩ := h1.2 c (List.mem_of_getElem? ec)
      obtain ⟨_, ds, q3, q4, _⟩ := h2.2 f (List.mem_of_getElem? ed)
      obtain ⟨z1, z2⟩ := h3 c (List.mem_of_getElem? ec)
      rw [← q2, List.length_map] at z1
      exact eqv_ll n q1 q3 (by rw [q2, q4, e3]) z1 (fun w hw => z2 _ (by rw [← q2]; exact List.mem_map.mpr ⟨w, hw, rfl⟩))
theorem gName_to {i : Nat} {v : V} {σ : L2.St} {H : Hp} {Q : L2.St → Hp → Prop} (h : Q (σ.set i (some v)) H) : gName i v σ H Q := h
theorem set_split {te : TE} {i : Nat} {B : TS} {D : Ends} {σ : L2.St} {H : Hp} (I : V → Hp → Prop) (hB : ∀ v H, I v H → B D (σ.set i (some v)) H) (hA : ∀ Q : VK, (∀ v H, I v H → Q v H) → te σ H Q) : tSeq (tAsg te (gName i)) B D σ H := hA _ hB
theorem DeedAt.same {H H' : Hp} {t : Addr} {D : Deed} (h : DeedAt H t D) (s : Same H H') : DeedAt H' t D := h.up (fun _ _ e => s _ _ e) fun _ _ e => s _ _ e
theorem DeedAt.ext {H H' : Hp} {t : Addr} {D : Deed} (h : DeedAt H t D) (s : LamX.ExtN H H') : DeedAt H' t D := h.up (fun _ _ e => s _ _ e fun _ z => by cases z) fun _ _ e => s _ _ e fun _ z => by cases z
/-- a deed that stands off the part A -/
def offA (A H : Hp) : Hp := fun b => match A b with
  | none => H b
  | some _ => none
theorem offA_of {A H : Hp} {b : Addr} {o : HO} (n : A b = none) (e : H b = some o) : offA A H b = some o := by
  unfold offA; rw [n]; exact e
theorem offA_to {A H : Hp} {b : Addr} {o : HO} (e : offA A H b = some o) : A b = none ∧ H b = some o := by
  unfold offA at e
  cases q : A b with
  | none => rw [q] at e; exact ⟨rfl, e⟩
  | some u => rw [q] at e; cases e
theorem DeedAt.off {A H H' : Hp} {t : Addr} {D : Deed} (h : DeedAt (fresh H H') t D) (s : Sub A H) : DeedAt (offA A H') t D := by
  have key : ∀ b o, fresh H H' b = some o → offA A H' b = some o := fun b o e => by
    obtain ⟨n, e2⟩ := fresh_to e
    refine offA_of ?_ e2
    cases q : A b with
    | none => rfl
    | some u => rw [s b u q] at n; cases n
  exact h.up (fun _ _ e => key _ _ e) fun _ _ e => key _ _ e
theorem DeedAt.in_ {A H : Hp} {t : Addr} {D : Deed} (h : DeedAt (offA A H) t D) : DeedAt H t D := h.up (fun _ _ e => (offA_to e).2) fun _ _ e => (offA_to e).2
theorem DeedAt.offSame {A H H' : Hp} {t : Addr} {D : Deed} (h : DeedAt (offA A H) t D) (s : Same H H') : DeedAt (offA A H') t D := h.up (fun _ _ e => offA_of (offA_to e).1 (s _ _ (offA_to e).2)) fun _ _ e => offA_of (offA_to e).1 (s _ _ (offA_to e).2)
theorem DeedAt.offExt {A H H' : Hp} {t : Addr} {D : Deed} (h : DeedAt (offA A H) t D) (s : LamX.ExtN H H') : DeedAt (offA A H') t D := h.up (fun _ _ e => offA_of (offA_to e).1 (s _ _ (offA_to e).2 fun _ z => by cases z)) fun _ _ e => offA_of (offA_to e).1 (s _ _ (offA_to e).2 fun _ z => by cases z)
theorem DeedAt.offStp {A H A' H' : Hp} {t : Addr} {D : Deed} (h : DeedAt (offA A H) t D) (s : Stp A H A' H') : DeedAt H' t D := h.up (fun _ _ e => s.oth _ _ (offA_to e).2 (offA_to e).1) fun _ _ e => s.oth _ _ (offA_to e).2 (offA_to e).1
/-- the pile before a back: its first list, told -/
def Ahead (A H : Hp) (v : V) (N : Nl) (D : Deed) : Prop := ∃ (l : Addr) (cs : List (Addr × List Int)), v = .ref l ∧ LL H l cs ∧ (A l = none ∧ ∀ c ∈ cs, A c.1 = none) ∧ ∀ h, D = .back h → cs.map (·.2) = (pile N h).take 1
theorem na_pile {B H : Hp} {x : Nx} {N : Nl} (R : NA B x N) (s : Sub B H) {h : Int} (hh : 0 ≤ h ∧ h < (N.piles.length : Int)) : ∃ p cs, atI (x.ps.map V.ref) h = some (V.ref p) ∧ LL H p cs ∧ cs.map (·.2) = pile N h ∧ ∀ c ∈ cs, B c.1 = some (.lst (c.2.map V.int)) := by
  obtain ⟨p, hp, _, cs, l, e, _⟩ := R.pv.get (pileAt hh)
  refine ⟨p, cs, ?_, l.up s, e, l.2⟩
  have : h = ((h.toNat : Nat) : Int) := by omega
  rw [this]
  exact atI_nat (by rw [List.getElem?_map, hp]; rfl)
theorem ap_kept (N : Nl) (D : Deed) : (apN N D).kept.length ≤ N.kept.length + 1 := by
  cases D with
  | keep h => simp [apN]
  | forget p => simp only [apN, dr]; exact Nat.le_trans (List.length_filter_le _ _) (Nat.le_succ _)
  | _ => simp [apN]
theorem ap_many (N : Nl) (D : Deed) : (apN N D).many ≤ N.many + 1 := by
  cases D <;> simp only [apN] <;> omega
theorem shaped_str {x : Str} (h : PyData.strOk x = true) : SeqAt.shaped (.str x) = true := by simp [SeqAt.shaped, PyData.canLay0, PyData.depth, h]
theorem off_new {A H : Hp} (s : Sub A H) {l : Addr} (nl : H l = none) : A l = none := by
  cases q : A l with
  | none => rfl
  | some o => rw [s _ _ q] at nl; cases nl
theorem none_of_apart {A B : Hp} (h : Apart A B) {b : Addr} {o : HO} (e : B b = some o) : A b = none := by
  rcases h b with z | z
  · exact z
  · rw [z] at e; cases e
theorem cut01 (xs : List V) : cutV xs none (some 1) = xs.take 1 := by
  unfold cutV
  have e1 : HT.sIx xs.length 0 none = 0 := HT.sIx_none _ _
  have e2 : HT.sIx xs.length xs.length (some 1) = min 1 xs.length := by
    have : (1 : Int) = ((1 : Nat) : Int) := rfl
    rw [this, HT.sIx_nat]
  rw [e1, e2]
  simp
theorem if_split {c : TT} {t u B : TS} {D : Ends} {σ : L2.St} {H : Hp} (I : L2.St → Hp → Prop) (hB : ∀ σ H, I σ H → B D σ H) (hA : ∀ nx' : L2.St → Hp → Prop, (∀ σ H, I σ H → nx' σ H) → tIfS c t u { D with nx := nx' } σ H) : tSeq (tIfS c t u) B D σ H := hA _ hB
theorem seq_split {A B : TS} {D : Ends} {σ : L2.St} {H : Hp} (I : L2.St → Hp → Prop) (hB : ∀ σ H, I σ H → B D σ H) (hA : ∀ nx' : L2.St → Hp → Prop, (∀ σ H, I σ H → nx' σ H) → A { D with nx := nx' } σ H) : tSeq A B D σ H := hA _ hB
/-- all lists at the bottom are short -/
def Small (N : Nl) : Prop := (∀ v ∈ N.piles, ∀ c ∈ v, c.length ≤ 3) ∧ ∀ q ∈ N.kept, ∀ c ∈ q.2, c.length ≤ 3
theorem small_pile {N : Nl} (S : Small N) (h : Int) : ∀ c ∈ pile N h, c.length ≤ 3 := by
  unfold pile
  rw [List.getD_eq_getElem?_getD]
  cases e : N.piles[h.toNat]? with
  | none => simp
  | some v => exact S.1 v (List.mem_of_getElem? e)
theorem small_set {N : Nl} (S : Small N) (i : Nat) {z : List (List Int)} (hz : ∀ c ∈ z, c.length ≤ 3) : Small { N with piles := N.piles.set i z } :=
  ⟨fun v hv => by
    rcases mem_set hv with q | q
    · rw [q]; exact hz
    · exact S.1 v q, S.2⟩
theorem Small.ap {N : Nl} (S : Small N) {D : Deed} {hands : Int} (hD : InD hands D) : Small (apN N D) := by
  cases D with
  | call h vs =>
    refine small_set S _ fun c hc => ?_
    rcases List.mem_cons.mp hc with q | q
    · rw [q]; exact hD.2
    · exact small_pile S h c q
  | back h => exact small_set S _ fun c hc => small_pile S h c (List.mem_of_mem_drop hc)
  | put h d s v =>
    refine small_set S _ fun c hc => ?_
    rcases mem_set hc with q | q
    · rw [q, List.length_set]
      rw [List.getD_eq_getElem?_getD]
      cases e : (pile N h)[d.toNat]? with
      | none => simp
      | some u => exact small_pile S h u (List.mem_of_getElem? e)
    · exact small_pile S h c q
  | branch h o => exact small_set S _ fun c hc => small_pile S h c hc
  | keep h =>
    refine ⟨S.1, fun q hq => ?_⟩
    rcases List.mem_append.mp hq with z | z
    · exact S.2 q z
    · have : q = (N.many, pile N h) := by simpa using z
      subst this; exact small_pile S h
  | leap h p =>
    refine small_set S _ fun c hc => ?_
    cases e : lk N.kept p with
    | none => rw [e] at hc; simp at hc
    | some u => rw [e] at hc; exact S.2 _ (lk_mem e) c hc
  | forget p => exact ⟨S.1, fun q hq => S.2 q (List.mem_filter.mp hq).1⟩
theorem small0 (hv : Int) : Small (nl (newW hv 40)) := by
  refine ⟨fun v h c hc => ?_, fun q hq => ?_⟩
  · obtain ⟨q, hq, e⟩ := List.mem_map.mp (show v ∈ (List.replicate hv.toNat (none : Option Int)).map (vl []) from h)
    rw [List.eq_of_mem_replicate hq, vl_nil] at e
    rw [← e] at hc; simp at hc
  · have hq : q ∈ ([] : List (Int × List (List Int))) := hq
    simp at hq
/-- a deed that was done, whatever was asked ahead -/
theorem did_ok {W : Wd} (F : WFW W) {D : Deed} {r : Res} {W' : Wd} (ed : doDeed W D = .ok (r, W')) : Did W D r W' ∧ canN (nl W) D = true ∧ ∀ h vs, D = .call h vs → vs.length ≤ 3 := by
  cases D with
  | call h vs =>
    cases e : doCall W h vs with
    | error x => simp only [doDeed, e, okM] at ed; cases ed
    | ok q =>
      obtain ⟨n, W1⟩ := q
      simp only [doDeed, e, okM, Except.ok.injEq, Prod.mk.injEq] at ed
      obtain ⟨e1, e2⟩ := ed
      subst e2
      obtain ⟨k, f, h1, h2, _, h4, h5⟩ := doCall_ok F e
      exact ⟨⟨f, Nl.ext' (by show vals W1 = _; rw [h1, ← pile_nl k]; rfl) h2 h4, len_set h1, fun h z => by cases z⟩, rfl, fun h vs z => by cases z; exact h5⟩
  | back h =>
    cases e : doBack W h with
    | error x => simp only [doDeed, e, okM] at ed; cases ed
    | ok q =>
      obtain ⟨vs, W1⟩ := q
      simp only [doDeed, e, okM, Except.ok.injEq, Prod.mk.injEq] at ed
      obtain ⟨e1, e2⟩ := ed
      subst e2 e1
      obtain ⟨k, f, ⟨t, ht, h1⟩, h2, h4, _⟩ := doBack_ok F e
      refine ⟨⟨f, Nl.ext' (by show vals W1 = (vals W).set h.toNat ((pile (nl W) h).drop 1); rw [h1, pile_nl k, ht]; rfl) h2 h4, len_set h1, fun h' z => ?_⟩, ?_, fun h vs z => by cases z⟩
      · cases z
        exact ⟨vs, t, rfl, by rw [pile_nl k]; exact ht⟩
      · show (!(pile (nl W) h).isEmpty) = true
        rw [pile_nl k, ht]; rfl
  | put h d s v =>
    cases e : doPut W h d s v with
    | error x => simp only [doDeed, e, okM] at ed; cases ed
    | ok q =>
      obtain ⟨n, W1⟩ := q
      simp only [doDeed, e, okM, Except.ok.injEq, Prod.mk.injEq] at ed
      obtain ⟨e1, e2⟩ := ed
      subst e2
      have P := doPut_ok F e
      refine ⟨⟨P.wfw, Nl.ext' (by show vals W1 = _; rw [P.vals, ← pile_nl P.hok]; rfl) P.kept P.many, len_set P.vals, fun h z => by cases z⟩, ?_, fun h vs z => by cases z⟩
      show (decide (d < ((pile (nl W) h).length : Int)) && decide (s < (((pile (nl W) h).getD d.toNat []).length : Int))) = true
      rw [pile_nl P.hok, decide_eq_true P.dl, decide_eq_true P.sl]; rfl
  | branch h o =>
    cases e : doBranch W h o with
    | error x => simp only [doDeed, e, okM] at ed; cases ed
    | ok W1 =>
      simp only [doDeed, e, okM, Except.ok.injEq, Prod.mk.injEq] at ed
      obtain ⟨e1, e2⟩ := ed
      subst e2
      obtain ⟨k, _, f, h1, h2, h4⟩ := doBranch_ok F e
      exact ⟨⟨f, Nl.ext' (by show vals W1 = _; rw [h1, ← pile_nl k]; rfl) h2 h4, len_set h1, fun h z => by cases z⟩, rfl, fun h vs z => by cases z⟩
  | keep h =>
    cases e : doKeep W h with
    | error x => simp only [doDeed, e, okM] at ed; cases ed
    | ok q =>
      obtain ⟨n, W1⟩ := q
      simp only [doDeed, e, okM, Except.ok.injEq, Prod.mk.injEq] at ed
      obtain ⟨e1, e2⟩ := ed
      subst e2
      obtain ⟨k, rfl, _, f, h1, h2, h4⟩ := doKeep_ok F e
      refine ⟨⟨f, Nl.ext' h1 (by show kept W1 = _; rw [h2, ← pile_nl k]; rfl) h4, ?_, fun h z => by cases z⟩, rfl, fun h vs z => by cases z⟩
      rw [← len_vals, h1, len_vals]
  | leap h p =>
    cases e : doLeap W h p with
    | error x => simp only [doDeed, e, okM] at ed; cases ed
    | ok W1 =>
      simp only [doDeed, e, okM, Except.ok.injEq, Prod.mk.injEq] at ed
      obtain ⟨e1, e2⟩ := ed
      subst e2
      obtain ⟨k, x, hx, f, h1, h2, h4⟩ := doLeap_ok F e
      refine ⟨⟨f, Nl.ext' ?_ h2 h4, len_set h1, fun h z => by cases z⟩, ?_, fun h vs z => by cases z⟩
      · show vals W1 = (vals W).set h.toNat ((lk (kept W) p).getD [])
        rw [h1, lk_kept, hx]; rfl
      · show has (kept W) p = true
        unfold has; rw [lk_kept, hx]; rfl
  | forget p =>
    cases e : doForget W p with
    | error x => simp only [doDeed, e, okM] at ed; cases ed
    | ok W1 =>
      simp only [doDeed, e, okM, Except.ok.injEq, Prod.mk.injEq] at ed
      obtain ⟨e1, e2⟩ := ed
      subst e2
      obtain ⟨x, hx, _, f, h1, h2, h4⟩ := doForget_ok F e
      refine ⟨⟨f, Nl.ext' h1 h2 h4, ?_, fun h z => by cases z⟩, ?_, fun h vs z => by cases z⟩
      · rw [← len_vals, h1, len_vals]
      · show has (kept W) p = true
        unfold has; rw [lk_kept, hx]; rfl
theorem Small.did {W W' : Wd} {D : Deed} {r : Res} (S : Small (nl W)) (F : WFW W) (ed : doDeed W D = .ok (r, W')) : Small (nl W') := by
  obtain ⟨d, _, h3⟩ := did_ok F ed
  rw [d.nl]
  cases D with
  | call h vs =>
    refine small_set S _ fun c hc => ?_
    rcases List.mem_cons.mp hc with q | q
    · rw [q]; exact h3 h vs rfl
    · exact small_pile S h c q
  | back h => exact small_set S _ fun c hc => small_pile S h c (List.mem_of_mem_drop hc)
  | put h dd s v =>
    refine small_set S _ fun c hc => ?_
    rcases mem_set hc with q | q
    · rw [q, List.length_set, List.getD_eq_getElem?_getD]
      cases e : (pile (nl W) h)[dd.toNat]? with
      | none => simp
      | some u => exact small_pile S h u (List.mem_of_getElem? e)
    · exact small_pile S h c q
  | branch h o => exact small_set S _ fun c hc => small_pile S h c hc
  | keep h =>
    refine ⟨S.1, fun q hq => ?_⟩
    rcases List.mem_append.mp hq with z | z
    · exact S.2 q z
    · have : q = ((nl W).many, pile (nl W) h) := by simpa using z
      subst this; exact small_pile S h
  | leap h p =>
    refine small_set S _ fun c hc => ?_
    cases e : lk (nl W).kept p with
    | none => rw [e] at hc; simp at hc
    | some u => rw [e] at hc; exact S.2 _ (lk_mem e) c hc
  | forget p => exact ⟨S.1, fun q hq => S.2 q (List.mem_filter.mp hq).1⟩
theorem wipe1 (σ : L2.St) (j : Nat) (v : V) : (wipe σ [j]).set j (some v) = σ.set j (some v) := by
  simp [wipe]
/-- [wood.look(h) for h in range(hands)] -/
theorem looks {K : PySem.W.Frag} {mg : Str → Option Value} (T : Txt K mg) {A H : Hp} {x : Ad} {W : Wd} {σ : L2.St} {i w j : Nat} {Q : VK} (hh : σ[i]? = some (some (.int (W.tops.length : Int)))) (hw : σ[w]? = some (some (.ref x.p))) (hj : j < σ.length) (nw : w ≠ j) (s : Sub A H) (R : WA K A x W) (F : WFW W)
    (k : ∀ H' D qs, H D = none → L3 (fresh H H') D qs → qs.map (·.2) = vals W → Same H H' → Q (.ref D) H') : tLc (iRng1 (tCons (tVar i) tNil)) (gName j) tYes (tMeth (He.ga K "Wood") "look" (spLook K) [] E0 (tVar w) (tCons (tVar j) tNil)) [j] σ H Q := by
  have hp := s _ _ R.ins
  have h6 := F.h6
  refine ⟨_, hh, (W.tops.length : Int), rfl, by omega, by omega, fun D nD => ?_⟩
  refine lc_range (lo := 0) (n := ((W.tops.length : Nat) : Int).toNat) (fun i H' => ∃ qs : List (Addr × List (List Int)), L3 (fresh H H') D qs ∧ qs.map (·.2) = (vals W).take i ∧ Same H H') ⟨[], ⟨fresh_of nD upd_same, by simp⟩, rfl, same_new nD _⟩ ?_ ?_
  · rintro m H' hm ⟨qs, h1, h2, h3⟩
    have hk : hOk W (0 + (m : Int)) := ⟨by omega, by omega⟩
    have q1 : (σ.set j (some (V.int (0 + (m : Int)))))[w]? = some (some (.ref x.p)) := by rw [List.getElem?_set_ne (Ne.symm nw)]; exact hw
    have q2 : (σ.set j (some (V.int (0 + (m : Int)))))[j]? = some (some (V.int (0 + (m : Int)))) := List.getElem?_set_self hj
    refine gName_to ?_
    rw [wipe1]
    refine ⟨?_, yesT rfl ?_⟩
    · simp [wipe]
    refine ⟨_, q1, x.p, _, _, rfl, h3 _ _ hp, wf_no (by decide +kernel), _, q2, A, x, W, _, rfl, ⟨s.same h3, R, F⟩, fun _ H'' p cs N => ?_, fun hk' => absurd hk hk'⟩
    have hz : (vals W)[m]? = some (vl W.frames (top W (0 + (m : Int)))) := by
      have := top_get hk
      rw [show (0 + (m : Int)).toNat = m by omega] at this
      unfold vals; rw [List.getElem?_map, this]; rfl
    have lq2 := congrArg List.length h2
    rw [List.length_map, List.length_take] at lq2
    exact ⟨_, N.same _ _ (fresh_to h1.1).2, szl (by rw [List.length_map]; omega), _, h1.snocF N h3, by rw [List.map_append, h2, take_snocA hz]; rfl, fun b o e => by rw [upd_ne (ne_of_none e nD)]; exact N.same _ _ (h3 b o e)⟩
  · rintro H3 ⟨qs, h1, h2, h3⟩
    have hvl : (vals W).length = ((W.tops.length : Nat) : Int).toNat := by rw [len_vals]; omega
    rw [← hvl, List.take_length] at h2
    exact k H3 D qs nD h1 h2 h3
/-- [len(wood.look(h)) for h in range(hands)] -/
theorem lens {K : PySem.W.Frag} {mg : Str → Option Value} (T : Txt K mg) {A H : Hp} {x : Ad} {W : Wd} {σ : L2.St} {i w j : Nat} {Q : VK} (hh : σ[i]? = some (some (.int (W.tops.length : Int)))) (hw : σ[w]? = some (some (.ref x.p))) (hj : j < σ.length) (nw : w ≠ j) (s : Sub A H) (R : WA K A x W) (F : WFW W)
    (k : ∀ H' D, H D = none → H' D = some (.lst (((vals W).map fun v => (v.length : Int)).map V.int)) → Same H H' → Q (.ref D) H') : tLc (iRng1 (tCons (tVar i) tNil)) (gName j) tYes (tCB (rLenK K) (tCons (tMeth (He.ga K "Wood") "look" (spLook K) [] E0 (tVar w) (tCons (tVar j) tNil)) tNil)) [j] σ H Q := by
  have hp := s _ _ R.ins
  have h6 := F.h6
  refine ⟨_, hh, (W.tops.length : Int), rfl, by omega, by omega, fun D nD => ?_⟩
  refine lc_range (lo := 0) (n := ((W.tops.length : Nat) : Int).toNat) (fun i H' => H' D = some (.lst ((((vals W).take i).map fun v => (v.length : Int)).map V.int)) ∧ Same H H') ⟨upd_same, same_new nD _⟩ ?_ ?_
  · rintro m H' hm ⟨h1, h3⟩
    have hk : hOk W (0 + (m : Int)) := ⟨by omega, by omega⟩
    have q1 : (σ.set j (some (V.int (0 + (m : Int)))))[w]? = some (some (.ref x.p)) := by rw [List.getElem?_set_ne (Ne.symm nw)]; exact hw
    have q2 : (σ.set j (some (V.int (0 + (m : Int)))))[j]? = some (some (V.int (0 + (m : Int)))) := List.getElem?_set_self hj
    refine gName_to ?_
    rw [wipe1]
    refine ⟨?_, yesT rfl ?_⟩
    · simp [wipe]
    have hz : (vals W)[m]? = some (vl W.frames (top W (0 + (m : Int)))) := by
      have := top_get hk
      rw [show (0 + (m : Int)).toNat = m by omega] at this
      unfold vals; rw [List.getElem?_map, this]; rfl
    refine ⟨_, q1, x.p, _, _, rfl, h3 _ _ hp, wf_no (by decide +kernel), _, q2, A, x, W, _, rfl, ⟨s.same h3, R, F⟩, fun _ H'' p cs N => ⟨p, _, rfl, .inl (SqL.of N.ll.1), ?_⟩, fun hk' => absurd hk hk'⟩
    refine ⟨_, N.same _ _ h1, szl (by rw [List.length_map, List.length_map, List.length_take]; omega), ?_, fun b o e => by rw [upd_ne (ne_of_none e nD)]; exact N.same _ _ (h3 b o e)⟩
    rw [upd_same, take_snocA hz, List.map_append, List.map_append, ← N.vals]; simp
  · rintro H3 ⟨h1, h3⟩
    have hvl : (vals W).length = ((W.tops.length : Nat) : Int).toNat := by rw [len_vals]; omega
    rw [← hvl, List.take_length] at h1
    exact k H3 D nD h1 h3
/-- the parts behind the making of a wood, at H5, beside the dice -/
theorem wld_made {T : List (Addr × Str)} {H5 H6 A' : Hp} {y dx d a : Addr} {u v : HO} (ny : H5 y = none) (ndx : H5 dx = none) (S6 : Sub A' H6) (kp : Kp y (upd (upd H5 dx u) y v) H6) (new : ∀ b, A' b ≠ none → b = y ∨ upd (upd H5 dx u) y v b = none) (t : LamX.Tabs T H5) :
    Wld T H6 (pl A') (fun _ => none) (pl (diC H5 d a)) ∧ ∀ b o, H5 b = some o → H6 b = some o := by
  have up5 : ∀ b o, H5 b = some o → H6 b = some o := fun b o e => kp b o (ne_of_none e ny) (by rw [upd_ne (ne_of_none e ny), upd_ne (ne_of_none e ndx)]; exact e)
  have key : Apart A' (diC H5 d a) := fun b => by
    cases q : A' b with
    | none => exact .inl rfl
    | some w =>
      refine .inr ?_
      cases q5 : H5 b with
      | none => exact diC_none q5
      | some o =>
        rcases new b (by rw [q]; simp) with z | z
        · subst z; rw [ny] at q5; cases q5
        · rw [upd_ne (ne_of_none q5 ny), upd_ne (ne_of_none q5 ndx), q5] at z; cases z
  have e0 : ∀ b (o : HO), (fun _ => none : Hp) b = some o → False := fun b o e => nomatch e
  exact ⟨⟨S6.pl, fun b o e => (e0 b o e).elim, Sub.pl fun b o e => up5 b o (diC_sub _ _ _ b o e), fun b => .inr rfl, (key.pl.symm.pl).symm, fun b => .inl rfl, pl_pl _, fun b o e => (e0 b o e).elim, pl_pl _, t.ext up5⟩, up5⟩
theorem seq_of {t u : TS} {D : Ends} {σ : L2.St} {H : Hp} (h : t { D with nx := u D } σ H) : tSeq t u D σ H := h
theorem asg_of {te : TE} {g : TG} {D : Ends} {σ : L2.St} {H : Hp} (h : te σ H fun v H' => g v σ H' D.nx) : tAsg te g D σ H := h
theorem drop_of {te : TE} {D : Ends} {σ : L2.St} {H : Hp} (h : te σ H fun _ H' => D.nx σ H') : tDrop te D σ H := h
theorem ret_of {te : TE} {D : Ends} {σ : L2.St} {H : Hp} (h : te σ H D.rt) : tRet te D σ H := h
theorem cb_of {r : List V → Hp → VK → Prop} {ta : TA} {σ : L2.St} {H : Hp} {Q : VK} (h : ta σ H fun vs H1 => r vs H1 Q) : tCB r ta σ H Q := h
theorem cons_of {te : TE} {ta : TA} {σ : L2.St} {H : Hp} {Q : List V → Hp → Prop} (h : te σ H fun v H1 => ta σ H1 fun vs H2 => Q (v :: vs) H2) : tCons te ta σ H Q := h
theorem call_of {sp : Sp} {dvs : List V} {E : XK} {ta : TA} {σ : L2.St} {H : Hp} {Q : VK} (h : ta σ H fun vs H1 => sp (vs ++ dvs) H1 Q E) : tCall sp dvs E ta σ H Q := h
theorem ifs_of {c : TT} {t u : TS} {D : Ends} {σ : L2.St} {H : Hp} (h : c σ H fun b H1 => if b = true then t D σ H1 else u D σ H1) : tIfS c t u D σ H := h
theorem not_of {t : TT} {σ : L2.St} {H : Hp} {Q : Bool → Hp → Prop} (h : t σ H fun b H1 => Q (!b) H1) : tNot t σ H Q := h
theorem tb_of {t : TE} {σ : L2.St} {H : Hp} {Q : Bool → Hp → Prop} (h : t σ H fun x H1 => ∃ c, x = .bl c ∧ Q c H1) : tB t σ H Q := h
end Sk
end
section
/-! SwX: more moves of parts side by side; what calls tells, alike. -/
namespace Sk
open PySem PySem.Spec PyProof.Rows L2 SW
/-- x.m(..) of a built-in class, off the written part -/
theorem pe_bmK {X : Cx} (K : PySem.W.Frag) (hK : X.K = K) {o e : Expr} {es : List Expr} {to : TE} {t : TA} {name : Str} {apos cpos : Pos} {T id : String} {r : V → List V → Hp → VK → Prop} (pa : PlainAttrs T) (slot : Slot T name id) (hty : typeOf (.builtin id) = pure (.type "method_descriptor")) (hm : MtR X id r) (ho : PE X o to) (ha : PA X (e :: es) t)
    (hbase : attributeBase o name X.env (eval o X.env) = eval o X.env := by rfl)
    (hfew : ((backTo cpos (starEach (e :: es) X.env)).all (fun x => !x.1) && (backToKw cpos (keywordEach [] X.env)).all (fun x => x.1.isSome)
      && decide ((e :: es).length + ([] : List Keyword).length + (if ([] : List Keyword).isEmpty then 0 else 1) < 30)) = true := by rfl)
    (hline : (apos.endLine == cpos.line) = true := by rfl) (hs : starEach (e :: es) X.env = (false, eval e X.env) :: starEach es X.env := by rfl) (hplain : (backTo cpos (starEach es X.env)).any (·.1) = false := by rfl) :
    PE X (.Call (.Attribute o name apos) (e :: es) [] cpos) (tBM K T r to t) := by
  subst hK; exact pe_bm pa slot hty hm ho ha hbase hfew hline hs hplain
section
variable {T : List (Addr × Str)} {H H' A B C A' B' C' : Hp}
theorem Wld.rot (w : Wld T H A B C) : Wld T H A C B := ⟨w.sA, w.sC, w.sB, w.ac, w.ab, w.bc.symm, w.pA, w.pC, w.pB, w.tb⟩
theorem Wld.stC (w : Wld T H A B C) (s : Stp C H C' H') : Wld T H' A B (pl C') := (w.rot.stB s).rot
/-- one object more is C's -/
theorem Wld.join (w : Wld T H A B C) {a : Addr} {o : HO} (e : H a = some o) (nA : A a = none) (nB : B a = none) (n1 : ∀ ps, o ≠ .tbl ps) (n2 : ∀ f, o ≠ .ext f) : Wld T H A B (upd C a o) := by
  refine ⟨w.sA, w.sB, fun b u q => ?_, w.ab, fun b => ?_, fun b => ?_, w.pA, w.pB, fun b u q => ?_, w.tb⟩
  · by_cases z : b = a
    · subst z; rw [upd_same] at q; cases q; exact e
    · rw [upd_ne z] at q; exact w.sC b u q
  · by_cases z : b = a
    · subst z; exact .inl nA
    · rw [upd_ne z]; exact w.ac b
  · by_cases z : b = a
    · subst z; exact .inl nB
    · rw [upd_ne z]; exact w.bc b
  · by_cases z : b = a
    · subst z; rw [upd_same] at q; cases q; exact ⟨n1, n2⟩
    · rw [upd_ne z] at q; exact w.pC b u q
/-- what N has beside C -/
def jn (C N : Hp) : Hp := fun b => match C b with
  | some o => some o
  | none => pl N b
theorem jn_old {C N : Hp} {b : Addr} {o : HO} (e : C b = some o) : jn C N b = some o := by unfold jn; rw [e]
theorem jn_new {C N : Hp} (sC : Sub C H') (sN : Sub N H') {b : Addr} {o : HO} (e : N b = some o) (n1 : ∀ ps, o ≠ .tbl ps) (n2 : ∀ f, o ≠ .ext f) : jn C N b = some o := by
  unfold jn
  cases q : C b with
  | some u =>
    have := (sC b u q).symm.trans (sN b o e)
    exact this
  | none => exact pl_to e n1 n2
theorem jn_to {C N : Hp} {b : Addr} {o : HO} (e : jn C N b = some o) : C b = some o ∨ (C b = none ∧ pl N b = some o) := by
  unfold jn at e
  cases q : C b with
  | some u => rw [q] at e; exact .inl e
  | none => rw [q] at e; exact .inr ⟨rfl, e⟩
theorem jn_none {C N : Hp} {b : Addr} (h1 : C b = none) (h2 : N b = none) : jn C N b = none := by
  unfold jn; rw [h1]; unfold pl; rw [h2]
theorem fresh_sub (H H' : Hp) : Sub (fresh H H') H' := fun b o e => (fresh_to e).2
theorem fresh_none {H H' : Hp} {b : Addr} {o : HO} (e : H b = some o) : fresh H H' b = none := by unfold fresh; rw [e]
/-- all that is new since H is C's, too -/
theorem Wld.joinF (w : Wld T H' A B C) {H : Hp} (sA : Sub A H) (sB : Sub B H) : Wld T H' A B (jn C (fresh H H')) := by
  have ap : ∀ {D : Hp}, Sub D H → Apart D C → Apart D (jn C (fresh H H')) := fun {D} s h b => by
    cases q : D b with
    | none => exact .inl rfl
    | some o =>
      refine .inr (jn_none ?_ (fresh_none (s b o q)))
      rcases h b with z | z
      · rw [q] at z; cases z
      · exact z
  refine ⟨w.sA, w.sB, fun b u q => ?_, w.ab, ap sA w.ac, ap sB w.bc, w.pA, w.pB, fun b u q => ?_, w.tb⟩
  · rcases jn_to q with z | ⟨_, z⟩
    · exact w.sC b u z
    · exact (fresh_to (pl_of z).1).2
  · rcases jn_to q with z | ⟨_, z⟩
    · exact w.pC b u z
    · exact (pl_of z).2
/-- a list that is nobody's is changed -/
theorem Wld.gar (w : Wld T H A B C) {a : Addr} {xs ys : List V} (e : H a = some (.lst xs)) (nA : A a = none) (nB : B a = none) (nC : C a = none) : Wld T (upd H a (.lst ys)) A B C := by
  have k : ∀ {D : Hp}, Sub D H → D a = none → Sub D (upd H a (.lst ys)) := fun {D} s n b o q => by
    rw [upd_ne (fun z => by rw [z, n] at q; cases q)]; exact s b o q
  refine ⟨k w.sA nA, k w.sB nB, k w.sC nC, w.ab, w.ac, w.bc, w.pA, w.pB, w.pC, tabs_by w.tb (fun b ps q => ?_) (fun b f q => ?_)⟩
  · rw [upd_ne (fun z => by rw [z, e] at q; cases q)]; exact q
  · rw [upd_ne (fun z => by rw [z, e] at q; cases q)]; exact q
/-- behind draws, C's other cells stay -/
theorem Wld.drawnK {K : PySem.W.Frag} (w : Wld T H A B C) {d a : Addr} {ns : List Int} (D : Die K C d a ns) (k : Kp d H H') (D' : Dice H' d a) : ∃ C', Wld T H' A B C' ∧ Die K C' d a ns ∧ ∀ b, b ≠ d → C' b = C b := by
  obtain ⟨n, i, m, r, h, e⟩ := D.dice
  obtain ⟨_, i', m', r', h', e'⟩ := D'
  refine ⟨_, w.cell k e e', ⟨⟨n, i', m', r', h', upd_same⟩, ?_⟩, fun b z => upd_ne z⟩
  exact sq_upd D.scr e n
theorem Die.jn {K : PySem.W.Frag} {C N : Hp} {d a : Addr} {ns : List Int} (D : Die K C d a ns) : Die K (Sk.jn C N) d a ns := by
  obtain ⟨n, i, m, r, h, e⟩ := D.dice
  exact ⟨⟨n, i, m, r, h, jn_old e⟩, Same.seq (fun b o e => jn_old e) D.scr⟩
theorem Die.upd {K : PySem.W.Frag} {C : Hp} {d a b : Addr} {o : HO} {ns : List Int} (D : Die K C d a ns) (s : Sub C H) (n : H b = none ∨ C b = none) : Die K (L2.upd C b o) d a ns := by
  have cn : C b = none := by
    rcases n with n | n
    · cases q : C b with
      | none => rfl
      | some u => rw [s b u q] at n; cases n
    · exact n
  obtain ⟨n, i, m, r, h, e⟩ := D.dice
  exact ⟨⟨n, i, m, r, h, (upd_ne (ne_of_none e cn)).trans e⟩, Same.seq (same_new cn o) D.scr⟩
/-- a wood made beside others -/
theorem stp_made {A' : Hp} {y dx : Addr} {u v : HO} (ny : H y = none) (ndx : H dx = none) (S7 : Sub A' H') (kp : Kp y (L2.upd (L2.upd H dx u) y v) H') (new : ∀ b, A' b ≠ none → b = y ∨ L2.upd (L2.upd H dx u) y v b = none) : Stp (fun _ => none) H A' H' := by
  refine ⟨S7, fun b o e _ => kp b o (ne_of_none e ny) (by rw [upd_ne (ne_of_none e ny), upd_ne (ne_of_none e ndx)]; exact e), fun b _ m => ?_⟩
  rcases new b m with z | z
  · subst z; exact ny
  · by_cases q : b = y
    · subst q; exact ny
    · by_cases q2 : b = dx
      · subst q2; exact ndx
      · rw [upd_ne q, upd_ne q2] at z; exact z
end
theorem small_slots {W : Wd} (F : WFW W) (S : Small (nl W)) {r : Int} {f : Fr} (h : lk W.frames r = some f) : f.slots.length ≤ 3 := by
  obtain ⟨y, hy, hr⟩ := F.reached h
  have hs : f.slots ∈ vl W.frames y := by
    unfold vl
    exact List.mem_map.mpr ⟨r, hr, sl_of h⟩
  rcases List.mem_append.mp hy with z | z
  · exact S.1 _ (List.mem_map.mpr ⟨y, z, rfl⟩) _ hs
  · obtain ⟨q, hq, rfl⟩ := List.mem_map.mp z
    exact S.2 (q.1, vl W.frames q.2) (List.mem_map.mpr ⟨q, hq, rfl⟩) _ hs
/-! ### what calls tells, alike -/
theorem rows_same {W V : Wd} (ef : V.frames = W.frames) {ts us : List CRow} (R : Rows W ts) (S : Rows V us) : ts.map (fun t => t.2.2) = us.map (fun t => t.2.2) := by
  obtain ⟨r1, r2, r3⟩ := R
  obtain ⟨s1, s2, s3⟩ := S
  rw [ef] at s1
  have e : ts.map (fun t => t.2.2.1) = us.map (fun t => t.2.2.1) := List.Perm.eq_of_pairwise (fun a b _ _ h1 h2 => Int.le_antisymm h1 h2) r2 s2 (r1.trans s1.symm)
  have le : ts.length = us.length := by simpa using congrArg List.length e
  apply List.ext_getElem?
  intro i
  rw [List.getElem?_map, List.getElem?_map]
  have ei := congrArg (fun l => l[i]?) e
  simp only [List.getElem?_map] at ei
  cases h1 : ts[i]? with
  | none =>
    cases h2 : us[i]? with
    | none => rfl
    | some t => rw [h1, h2] at ei; cases ei
  | some t =>
    cases h2 : us[i]? with
    | none => rw [h1, h2] at ei; cases ei
    | some t' =>
      rw [h1, h2] at ei
      have ei : t.2.2.1 = t'.2.2.1 := Option.some.inj ei
      have q1 := r3 t (List.mem_of_getElem? h1)
      have q2 := s3 t' (List.mem_of_getElem? h2)
      rw [ef, ← ei, q1] at q2
      have q3 : t.2.2 = t'.2.2 := Prod.ext ei (Option.some.inj q2)
      simp [q3]
theorem eqv_oV {K : PySem.W.Frag} {H : Hp} (n : Nat) (b : Option Int) : Eqv K H n (oV b) (oV b) := by
  cases b with
  | none => exact .non n
  | some r => exact .int n r
theorem eqv_calls {K : PySem.W.Frag} {H : Hp} {p q : Addr} {ts us : List CRow} (n : Nat) (hp : H p = some (.lst (ts.map fun t => V.ref t.1))) (hq : H q = some (.lst (us.map fun t => V.ref t.1))) (rt : ∀ t ∈ ts, RowAt H t) (ru : ∀ t ∈ us, RowAt H t) (e : ts.map (fun t => t.2.2) = us.map (fun t => t.2.2)) (hl : ts.length ≤ 100000) (hs : ∀ t ∈ ts, t.2.2.2.slots.length ≤ 100000) : Eqv K H (n + 3) (.ref p) (.ref q) := by
  have le : ts.length = us.length := by simpa using congrArg List.length e
  refine .lst (n + 2) (SqL.of hp) (SqL.of hq) (by rw [List.length_map, List.length_map]; exact le) (by rw [List.length_map]; omega) fun i x y e1 e2 => ?_
  rw [List.getElem?_map] at e1 e2
  cases ec : ts[i]? with
  | none => rw [ec] at e1; cases e1
  | some t =>
    cases ed : us[i]? with
    | none => rw [ed] at e2; cases e2
    | some u =>
      rw [ec] at e1; rw [ed] at e2
      cases e1; cases e2
      have ei := congrArg (fun l => l[i]?) e
      simp only [List.getElem?_map, ec, ed, Option.map_some, Option.some.injEq] at ei
      obtain ⟨a1, a2⟩ := rt t (List.mem_of_getElem? ec)
      obtain ⟨b1, b2⟩ := ru u (List.mem_of_getElem? ed)
      have sl := hs t (List.mem_of_getElem? ec)
      rw [← ei] at b1 b2
      refine .tup (n + 1) (SqT.of a1) (SqT.of b1) rfl (by show 4 ≤ 100000; omega) fun j x y q1 q2 => ?_
      match j with
      | 0 => cases q1; cases q2; exact .int _ _
      | 1 => cases q1; cases q2; exact eqv_oV _ _
      | 2 => cases q1; cases q2; exact .int _ _
      | 3 => cases q1; cases q2; exact eqv_ints n (SqL.of a2) (SqL.of b2) sl
      | k + 4 => cases q1
theorem eqv_res {K : PySem.W.Frag} {H1 H2 H1' H2' H : Hp} {u v : V} {r : Res} (h1 : ResAt H1 H1' u r) (h2 : ResAt H2 H2' v r) (s1 : ∀ l xs, H1 l = none → H1' l = some (.lst xs) → H l = some (.lst xs)) (s2 : ∀ l xs, H2 l = none → H2' l = some (.lst xs) → H l = some (.lst xs)) (hz : ∀ zs, r = .lst zs → zs.length ≤ 100000) (n : Nat) : Eqv K H (n + 1) v u := by
  cases r with
  | int i =>
    have h1 : u = .int i := h1
    have h2 : v = .int i := h2
    subst h1 h2; exact .int _ _
  | non =>
    have h1 : u = .non := h1
    have h2 : v = .non := h2
    subst h1 h2; exact .non _
  | lst zs =>
    obtain ⟨l, rfl, n1, q1⟩ := h1
    obtain ⟨m, rfl, n2, q2⟩ := h2
    exact eqv_ints n (SqL.of (s2 _ _ n2 q2)) (SqL.of (s1 _ _ n1 q1)) (hz zs rfl)
end Sk
end
section
/-! SwLam: a lambda with one parameter that has a default, handed to a def that calls it without arguments. -/
namespace LamD
open PySem PySem.Spec PyProof.Rows L2 LamX
abbrev fobj (qual : Str) (params : Arguments) (body : Expr) (scope : Scope) (cl : List (Str × Addr)) (dt : Addr) (doc pm : Value) (c' : Addr) (ctv : Value) : Obj :=
  PySem.W.kdv_obj "<lambda>" qual params (.expr body) scope cl (.ref dt) doc pm c' ctv
section
variable {X : Cx} {pins : List (Addr × Obj)} {σ : L2.St} {H : Hp} {s : Shared}
/-- the default's tuple stands at dt -/
theorem lam_makeD {T : List (Addr × Str)} {c P : Addr} {params : Arguments} {body : Expr} {scope : Scope} {pos : Pos} {i : Int} {j : Nat} {dp : Pos} {E : Value → Shared → Prop} {Q : Value → Shared → Prop} (I : Inv X pins σ H s) (TB : TabB X.base X.mg c P) (hcode : X.env.code = .ref c)
    (hm : (P, X.env.qual ++ "<lambda>") ∈ T) (hu : ∀ p ∈ T, p.1 = P → p.2 = X.env.qual ++ "<lambda>") (hT : Tabs T H) (hd : params.defaults = [.Constant (.int i) j dp]) (hk0 : params.kw_defaults = []) (hfree : ∀ y ∈ scope.names, y.2 = .free → ∃ c, X.env.cells.lookup y.1 = some c)
    (h : ∀ (f c' dt : Addr) (dv doc pm ctv : Value) (H1 : Hp) (s' : Shared), Inv X pins σ H1 s' → ExtN H H1 → Tabs T H1 → s'.heap.get? dt = some (PySem.W.kdv_tup [dv]) → H1 dt = none → dt ∉ frs X.stack → RelV (.int i) dv →
      s'.heap.get? f = some (fobj (X.env.qual ++ "<lambda>") params body scope (cloFrom X.env.cells scope.names []) dt doc pm c' ctv) → H1 f = none → f ∉ frs X.stack → H1 c' = some (CodeO c' (X.env.qual ++ "<lambda>")) → Q (.ref f) s') :
    wpAny (model X.prog X.w) X.A (eval (.Lambda params body scope pos) X.env) Q E s := by
  refine PySem.W.kdv_lam (by rw [hd]; rfl) hk0 ?_
  rw [hd]
  refine PySem.W.kdv_all1 (thn ((pe_int (X := X) (i := i) (j := j) (pos := dp)).run pins s σ H (fun v H1 => v = .int i ∧ H1 = H) I ⟨rfl, rfl⟩) fun u s0 ⟨v, H0, I0, r0, q0⟩ => PySem.W.kdv_all0 ?_)
  obtain ⟨e1, e2⟩ := q0
  subst e1 e2
  clear I
  rw [makeFunction_eq]
  simp only [List.zip_nil_right, List.filterMap_nil, List.isEmpty_nil, if_true, pure_bind, List.isEmpty_cons, Bool.false_eq_true, if_false]
  refine wpAny_bind (wpAny_newTextTuple ?_)
  have I1 : Inv X pins σ H0 { s0 with heap := s0.heap.push (PySem.W.kdv_tup [u]) } := I0.kept (t' := s0.toks) fun b o e => Heap.get?_push_of_some _ e
  have hdt : ({ s0 with heap := s0.heap.push (PySem.W.kdv_tup [u]) } : Shared).heap.get? s0.heap.objs.size = some (PySem.W.kdv_tup [u]) := Heap.get?_push_size _ rfl
  have hdn : H0 s0.heap.objs.size = none := I0.hok.fresh (Nat.le_refl _)
  have hdf : s0.heap.objs.size ∉ frs X.stack := fun z => by
    rcases List.mem_cons.mp (I0.stkSub _ z) with e | e
    · have h1 := I0.lt
      rw [← e] at h1
      exact Nat.lt_irrefl _ h1
    · exact I0.nofs (Nat.le_refl _) e
  generalize hs : ({ s0 with heap := s0.heap.push (PySem.W.kdv_tup [u]) } : Shared) = s1 at I1 hdt
  show wpAny (model X.prog X.w) X.A (makeTail "<lambda>" (X.env.qual ++ "<lambda>") params (.expr body) scope X.env (.ref s0.heap.objs.size) .none none pos pos.line) Q E s1
  generalize s0.heap.objs.size = dt at hdt hdn hdf
  clear hs I0
  obtain ⟨ps, hP, ht, ha⟩ := hT _ hm
  have bP : s1.heap.BuiltinsAt X.mg P := TB.bm.keeps I1.bk
  have hP' : s1.heap.get? P = some { cls := .none, data := .fields ps } := I1.hok P _ hP
  have dP : dt ≠ P := fun z => by rw [z, hP] at hdn; cases hdn
  have nofr : ∀ f, s1.heap.objs.size ≤ f → f ∉ frs X.stack := fun f hf z => by
    rcases List.mem_cons.mp (I1.stkSub _ z) with e | e
    · have h1 := I1.lt
      rw [← e] at h1
      exact Nat.lt_irrefl _ (Nat.lt_of_lt_of_le h1 hf)
    · exact I1.nofs hf e
  cases hc : codeAmong pos ps.toList with
  | none =>
    refine PySem.W.kdv_makeTail (mg := X.mg) (c := c) (P := P) (ps := ps) (closure_ok hfree) I1.ok.glob (I1.mod.glob.keeps I1.bk) hcode (TB.code.keeps I1.bk) hP' ht hc TB.gP bP fun c' ctv doc h' tk hx hge hlt hrec htb => ?_
    obtain ⟨c2, oc, vs, t, e2, hoc, hdd, hv⟩ := hrec
    cases e2
    have hsz : s1.heap.objs.size ≤ h'.objs.size := Nat.le_trans hge (Nat.le_of_lt hlt)
    have nC : H0 c' = none := I1.hok.fresh hge
    have I2 := inv_table (t' := tk) (more := #[rawInt pos.line, rawInt pos.col, .ref c']) (h' := h'.push (fobj (X.env.qual ++ "<lambda>") params body scope (cloFrom X.env.cells scope.names []) dt doc ((X.mg "__name__").getD .none) c' ctv)) I1 hP
      (fun b o hb e => Heap.get?_push_of_some _ (hx b o hb e)) (Heap.get?_push_of_some _ htb) hge ⟨oc, vs, t, Heap.get?_push_of_some _ hoc, hdd, hv⟩
    have hE : ExtN H0 (upd (upd H0 P (.tbl (ps ++ #[rawInt pos.line, rawInt pos.col, .ref c']))) c' (CodeO c' (X.env.qual ++ "<lambda>"))) := fun b o e n => by
      rw [upd_ne (ne_of_none e nC), upd_ne (fun z => n ps (Option.some.inj (e.symm.trans (by rw [z]; exact hP))))]
      exact e
    have eL : (ps ++ #[rawInt pos.line, rawInt pos.col, .ref c']).toList = ps.toList ++ [rawInt pos.line, rawInt pos.col, .ref c'] := by simp
    have dlt := Heap.lt_size hdt
    have dc : dt ≠ c' := fun z => Nat.lt_irrefl _ (Nat.lt_of_lt_of_le (z ▸ dlt) hge)
    refine h h'.objs.size c' dt u doc ((X.mg "__name__").getD .none) ctv _ _ I2 hE (fun p hp => ?_) (Heap.get?_push_of_some _ (hx dt _ dP hdt)) (by rw [upd_ne dc, upd_ne dP]; exact hdn) hdf r0 (Heap.get?_push_size _ rfl) ?_ (nofr _ hsz) upd_same
    · by_cases hb : p.1 = P
      · rw [hu p hp hb, hb]
        refine ⟨_, by rw [upd_ne (ne_of_none hP nC), upd_same], by rw [eL]; exact PySem.TriplesOk_snoc _ _ _ _ ht, fun p' cv hcv => ?_⟩
        rw [eL] at hcv
        rcases among_app _ ht hcv with z | z
        · obtain ⟨c0, e1, e2⟩ := ha p' cv z
          exact ⟨c0, e1, hE _ _ e2 codeO_ne⟩
        · exact ⟨c', z, upd_same⟩
      · obtain ⟨ps', a1, a2, a3⟩ := hT p hp
        refine ⟨ps', by rw [upd_ne (ne_of_none a1 nC), upd_ne hb]; exact a1, a2, fun p' cv hcv => ?_⟩
        obtain ⟨c0, e1, e2⟩ := a3 p' cv hcv
        exact ⟨c0, e1, hE _ _ e2 codeO_ne⟩
    · have n1 : h'.objs.size ≠ c' := Nat.ne_of_gt hlt
      have n2 : h'.objs.size ≠ P := Nat.ne_of_gt (Nat.lt_of_lt_of_le (Heap.lt_size hP') hsz)
      rw [upd_ne n1, upd_ne n2]
      exact I1.hok.fresh hsz
  | some cv =>
    obtain ⟨c', e, hco⟩ := ha pos cv hc
    subst e
    refine PySem.W.kdv_makeTailHit (mg := X.mg) (c := c) (P := P) (ps := ps) (closure_ok hfree) I1.ok.glob (I1.mod.glob.keeps I1.bk) hcode (TB.code.keeps I1.bk) hP' ht hc bP fun ctv doc h' tk hx hsz => ?_
    have I2 : Inv X pins σ H0 { s1 with heap := h'.push (fobj (X.env.qual ++ "<lambda>") params body scope (cloFrom X.env.cells scope.names []) dt doc ((X.mg "__name__").getD .none) c' ctv), toks := tk } := I1.kept fun b o e => Heap.get?_push_of_some _ (hx b o e)
    exact h h'.objs.size c' dt u doc ((X.mg "__name__").getD .none) ctv H0 _ I2 (ExtN.refl H0) hT (Heap.get?_push_of_some _ (hx dt _ hdt)) hdn hdf r0 (Heap.get?_push_size _ rfl) (I1.hok.fresh hsz) (nofr _ hsz) hco
end
/-- one parameter x, no other name of its own: captured ones and globals -/
structure LamS1 (sc scope : Scope) (x : Str) : Prop where
  kind : scope.kind = .function
  co : scope.isCoroutine = false
  gen : scope.isGenerator = false
  own : ∀ y ∈ scope.names, y.2 ≠ .cell ∧ (y.2 = .local → y.1 = x)
  par : scope.names.lookup x = some .local
  free : ∀ y ∈ scope.names, y.2 = .free → sc.names.lookup y.1 = some .cell ∨ sc.names.lookup y.1 = some .free
def lamSB1 (sc scope : Scope) (x : Str) : Bool :=
  decide (scope.kind = .function) && !scope.isCoroutine && !scope.isGenerator && (scope.names.all fun y => !decide (y.2 = .cell) && (!decide (y.2 = .local) || decide (y.1 = x)) && (!decide (y.2 = .free) || decide (sc.names.lookup y.1 = some .cell) || decide (sc.names.lookup y.1 = some .free))) && decide (scope.names.lookup x = some .local)
theorem lamS1_by {sc scope : Scope} {x : Str} (h : lamSB1 sc scope x = true) : LamS1 sc scope x := by
  unfold lamSB1 at h
  simp only [Bool.and_eq_true, Bool.or_eq_true, Bool.not_eq_true', decide_eq_true_eq, decide_eq_false_iff_not, List.all_eq_true] at h
  obtain ⟨⟨⟨⟨h1, h2⟩, h3⟩, h4⟩, h5⟩ := h
  refine ⟨h1, h2, h3, fun y hy => ⟨(h4 y hy).1.1, fun e => ?_⟩, h5, fun y hy e => ?_⟩
  · rcases (h4 y hy).1.2 with z | z
    · exact absurd e z
    · exact z
  · rcases (h4 y hy).2 with (z | z) | z
    · exact absurd e z
    · exact .inl z
    · exact .inr z
theorem LamS1.has {X : Cx} {scope : Scope} {x : Str} (L : LamS1 X.env.scope scope x) (ok : X.Ok) : ∀ y ∈ scope.names, y.2 = .free → ∃ c, X.env.cells.lookup y.1 = some c := fun y hy e => by
  rcases L.free y hy e with k | k
  · exact ok.has _ (.inl k)
  · exact ok.has _ (.inr k)
section
variable {X : Cx} {pins : List (Addr × Obj)} {σ : L2.St} {H HZ : Hp} {s s1 : Shared}
theorem lam_startD {A : Around} {outer : List Env} {E : XK} {scope : Scope} {f c' : Addr} {h₁ : Heap} {tk : Nat} {x : Str} {dv : Value} (I : Inv X pins σ H s) (L : LamS1 X.env.scope scope x) (hx : x ∉ X.N) (e0 : Env0 X.prog X.w X.K X.mg X.base A outer s1 HZ) (hd : A.handled = none)
    (un : Un (frs X.stack) [] H HZ s.heap s1.heap) (hns : h₁.Ns s1.heap.objs.size fun y => ([(x, dv)] : List (Str × Value)).reverse.lookup y) (kp : ∀ b o, s1.heap.get? b = some o → h₁.get? b = some o) :
    Inv (lamCx X A outer s1 HZ E scope f c') [] σ HZ { s1 with heap := h₁, toks := tk } := by
  have hfree := L.has I.ok
  have cm : ∀ {y c}, (cloFrom X.env.cells scope.names []).lookup y = some c → X.env.cells.lookup y = some c := fun {y c} e => by
    rcases cloFrom_mem (PySem.mem_of_lookup e) with hm | ⟨h1, h2⟩
    · cases hm
    · obtain ⟨c1, hc⟩ := hfree _ h1 rfl
      have hc : X.env.cells.lookup y = some c1 := hc
      have e2 : c = c1 := by
        rw [h2, hc] <;> rfl
      rw [e2]
      exact hc
  have look : ∀ {y}, scope.names.lookup y = some .free → ∃ c, (cloFrom X.env.cells scope.names []).lookup y = some c := fun {y} hl => by
    have hy : (y, NameKind.free) ∈ scope.names := PySem.mem_of_lookup hl
    exact mem_lookup (cloFrom_has (cells := X.env.cells) (acc := []) hy)
  have cellK : ∀ {c : Addr} {v : Option Value}, H c = none → s.heap.IsCell c v → h₁.IsCell c v := fun {c v} n ⟨o, ho, hd⟩ => by
    obtain ⟨sl, q⟩ := un.any ho n (by simp)
    exact ⟨_, kp _ _ q, hd⟩
  have noA : ∀ b : Addr, b ∉ (lamCx X A outer s1 HZ E scope f c').ex := fun b z => absurd (show b ∈ ([] : List Addr) from z) (by simp)
  refine ⟨⟨e0.mod, L.kind, rfl, rfl, Nat.le_refl _, fun y z c e1 e2 => I.ok.inj y z c (cm e1) (cm e2), fun y hy => ?_, fun y c z _ => ?_, fun _ => hd, Around.frames_deeper e0.frames, .inr ⟨rfl, rfl⟩, fun b z => absurd z (noA b), e0.bs, e0.bsz, fun b _ _ => noA b,
      fun b z => absurd z (noA b), e0.funs, e0.frf⟩,
    rfl, e0.bare, Un.kept kp, ⟨_, hns, fun i y v e1 e2 e3 => ?_⟩, fun y c e => ?_, e0.hok.fresh (Nat.le_refl _), fun y c e => ?_, fun q hq => absurd (show q ∈ ([] : List (Addr × Obj)) ++ [] from hq) (by simp), e0.hok.kept kp, I.len⟩
  · have hy : scope.names.lookup y = some .cell ∨ scope.names.lookup y = some .free := hy
    rcases hy with hy | hy
    · exact absurd rfl (L.own _ (PySem.mem_of_lookup hy)).1
    · exact look hy
  · have z : false = true := z
    cases z
  · have e3 : Vis scope y := e3
    rcases e3 with k | k | k
    · have yx : y = x := (L.own _ (PySem.mem_of_lookup k)).2 rfl
      have e1 : X.N[i]? = some y := e1
      exact absurd (yx ▸ List.mem_of_getElem? e1) hx
    · exact absurd rfl (L.own _ (PySem.mem_of_lookup k)).1
    · obtain ⟨m, hn, hl⟩ := I.loc
      have hvis : Vis X.env.scope y := (L.free _ (PySem.mem_of_lookup k) rfl).elim (fun k => .inr (.inl k)) (fun k => .inr (.inr k))
      obtain ⟨w', r, q⟩ := hl i y v e1 e2 hvis
      obtain ⟨c2, h2⟩ := look k
      refine ⟨w', r, .inr ⟨.inr k, c2, h2, ?_⟩⟩
      have c1 := cm h2
      rcases q with ⟨k', _⟩ | ⟨_, c3, e', z⟩
      · have k' : X.env.scope.names.lookup y = some .local := k'
        rcases L.free _ (PySem.mem_of_lookup k) rfl with k2 | k2 <;> rw [show X.env.scope.names.lookup y = _ from k2] at k' <;> cases k'
      · rw [c1] at e'
        cases e'
        exact cellK (I.freeC y _ c1) z
  · obtain ⟨w', z⟩ := I.cell y c (cm e)
    exact ⟨w', cellK (I.freeC y c (cm e)) z⟩
  · obtain ⟨v, o, ho, hd⟩ := I.cell y c (cm e)
    exact un.free c o ho (I.freeC y c (cm e)) (by simp)
/-- x(), in the def that got the lambda -/
theorem pe_actD {CXg : CXT} {Eg : XK} {Ng : List Str} {qg : Str} {sg : Scope} {g f c' dt : Addr} {cdg dv doc pm ctv : Value} {params : Arguments} {body : Expr} {scope : Scope} {k i : Nat} {a x : Str} {pn : List (Addr × Obj)} {xe : Value → Shared → Prop} {W : WX} {E : XK} {tb : TE} {p1 p2 : Pos}
    (I : Inv X pins σ H s) (L : LamS1 X.env.scope scope x) (hx : x ∉ X.N) (hdt : s.heap.get? dt = some (PySem.W.kdv_tup [dv])) (hdn : H dt = none) (hdf : dt ∉ frs X.stack) (hf : s.heap.get? f = some (fobj (X.env.qual ++ "<lambda>") params body scope (cloFrom X.env.cells scope.names []) dt doc pm c' ctv)) (hfn : H f = none) (hfr : f ∉ frs X.stack)
    (hbind : ∀ s2 : Shared, s2.heap.get? dt = some (PySem.W.kdv_tup [dv]) → BindsTo s2 (PySem.W.kdv_fn "<lambda>" (X.env.qual ++ "<lambda>") params (.expr body) scope (cloFrom X.env.cells scope.names []) (.ref dt) doc pm (.ref c') ctv) ⟨[], []⟩ [(x, dv)])
    (tk : Takes ((cxOf CXg X.prog X.w X.K X.mg X.base Ng qg sg g cdg X.A X.stack s H Eg).tr pn xe) W) (hW : ∀ cls d σ' H', E cls d H' → W cls d σ' H') (hr : Room (k + 1) (X.A.deeper (envOfC qg sg s.heap.objs.size g cdg)))
    (hbody : ∀ (A : Around) (outer : List Env) (s : Shared) (H : Hp), Room k (A.deeper (lamEnv X scope s.heap.objs.size f c')) → PE (lamCx X A outer s H E scope f c') body tb)
    (hN : Ng[i]? = some a) (hv : Vis sg a) (hd : (a == ("__debug__" : Str)) = false := by decide) (hcd : (a == ("__classdict__" : Str)) = false := by decide) :
    PE ((cxOf CXg X.prog X.w X.K X.mg X.base Ng qg sg g cdg X.A X.stack s H Eg).tr pn xe) (.Call (.Name a p1) [] [] p2)
      (fun σZ HZ Q => σZ[i]? = some (some (.ref f)) ∧ HZ c' = some (CodeO c' (X.env.qual ++ "<lambda>")) ∧ tb σ HZ Q) := by
  refine ⟨fun pinsZ sZ σZ HZ Q IZ h => ?_⟩
  obtain ⟨hs, hc, ht⟩ := h
  refine wpAny_Call_Name_kw (thn ((pe_var (pos := p1) (i := i) hN hv hd hcd).run pinsZ sZ σZ HZ (fun v H1 => v = .ref f ∧ H1 = HZ) IZ ⟨.ref f, hs, rfl, rfl⟩) fun u s1 ⟨v, H1, I1, r1, q1⟩ => ?_)
  obtain ⟨ev, eH⟩ := q1
  subst ev
  rw [eH] at I1
  obtain rfl : u = Value.ref f := r1
  have of1 : s1.heap.get? f = some (fobj (X.env.qual ++ "<lambda>") params body scope (cloFrom X.env.cells scope.names []) dt doc pm c' ctv) := I1.base.keep f _ hf hfn hfr (fun z => nomatch (show f ∈ ([] : List Addr) from z))
  have odt : s1.heap.get? dt = some (PySem.W.kdv_tup [dv]) := I1.base.keep dt _ hdt hdn hdf (fun z => nomatch (show dt ∈ ([] : List Addr) from z))
  refine PySem.W.callWith_F0 ⟨_, _, _, _, of1⟩ ?_
  have un : Un (frs X.stack) [] H HZ s.heap s1.heap := I1.base
  obtain ⟨⟨oc, vs, t, hoc, hdc, hvc⟩, _, _⟩ := I1.hok c' _ hc
  have rc : codeAny (model X.prog X.w) (X.A.deeper (envOfC qg sg s.heap.objs.size g cdg)) (.call (.ref f) ⟨[], []⟩) (CR (L2.CX X.prog X.w) (envOfC qg sg s.heap.objs.size g cdg :: X.stack) X.prog X.w HZ s1 Q E) s1 := by
    refine PySem.W.kla_callFunE hr.depth of1 rfl L.co L.gen rfl ⟨c', oc, vs, t, rfl, hoc, hdc, hvc⟩ (hbind s1 odt _ _ _ _ ?_)
    refine wpAny_newFunctionEnv (fun y hy => (L.own y hy).1) (fun y hy => ?_) (fun h₁ hns hsb => ⟨I1.nolimit.fresh _ hsb, ?_⟩) L.kind
    · have : y = (x, dv) := by simpa using hy
      rw [this]; exact L.par
    show codeAny _ _ (.expr body (lamEnv X scope s1.heap.objs.size f c')) _ _
    have kp : ∀ b o, s1.heap.get? b = some o → h₁.get? b = some o := fun b o e => hsb.extBut b o (Nat.ne_of_lt (Heap.lt_size e)) (Heap.get?_push_of_some _ e)
    have J : Inv (lamCx X (X.A.deeper (envOfC qg sg s.heap.objs.size g cdg)) (envOfC qg sg s.heap.objs.size g cdg :: X.stack) s1 HZ E scope f c') [] σ HZ { s1 with heap := h₁, toks := s1.toks + ([(x, dv)] : List (Str × Value)).length } :=
      lam_startD I L hx I1.env0 hr.hd un hns kp
    refine PySem.W.kla_codeExpr (wpAny_mono ((hbody _ _ s1 HZ (hr.deeper _)).run [] _ _ HZ Q J ht) (fun v s' hq => ?_) fun e s' hq => hq)
    obtain ⟨w', H', J', rv, q⟩ := hq
    exact ⟨w', H', J'.os, J'.bare, J'.base, J'.hok, rv, q⟩
  have hxp : Passes (L2.CX X.prog X.w) ((cxOf CXg X.prog X.w X.K X.mg X.base Ng qg sg g cdg X.A X.stack s H Eg).tr pn xe) E := passes_call tk hW
  refine wpAny_call (codeAny_mono rc fun r s' hq => ?_)
  cases r with
  | error e => exact hxp pinsZ σZ HZ s1 e s' I1 hq
  | ok fl =>
    cases fl with
    | ret u => exact I1.after hq
    | next => exact False.elim hq
    | brk => exact False.elim hq
    | cont => exact False.elim hq
end
section
variable {X : Cx}
/-- x(lambda p=0: body) -/
theorem pe_lamcallD {T : List (Addr × Str)} {TT : (XK → Hp → VK → Prop) → Hp → VK → Prop} {x a y : Str} {g c P : Addr} {k : Nat} {pg : Arguments} {bg : List Stmt} {sg : Scope} {dV kV doc pm cdv ct oc : Value} {an od : Option Addr} {osl : Array (Option Value)} {Ng : List Str}
    {params : Arguments} {body : Expr} {scope : Scope} {t : XK → TE} {p lpos pos : Pos} {i : Int} {j : Nat} {dp : Pos} (hg : Gl X x) (hm : X.mg x = some (.ref g)) (hk : PySem.W.keepIn X.K (.ref g) = true)
    (lk : X.K.lookup g = some ⟨oc, od, .func (PySem.W.fnOf x x pg bg sg dV kV doc pm an cdv ct), osl⟩) (hcg : PySem.W.codeIn X.K cdv x = true) (hb : L2.Binds X.K (PySem.W.fnOf x x pg bg sg dV kV doc pm an cdv ct) [a] []) (Sg : FnScope Ng [a] sg) (hNg : Ng[0]? = some a) (hva : Vis sg a)
    (hG : GivesTo X Ng x sg g cdv bg a (X.env.qual ++ "<lambda>") TT)
    (TB : TabB X.base X.mg c P) (hcode : X.env.code = .ref c) (hmT : (P, X.env.qual ++ "<lambda>") ∈ T) (hu : ∀ p ∈ T, p.1 = P → p.2 = X.env.qual ++ "<lambda>") (hr : Room (k + 2) X.A) (L : LamS1 X.env.scope scope y) (hy : y ∉ X.N) (hd0 : params.defaults = [.Constant (.int i) j dp]) (hk0 : params.kw_defaults = [])
    (hbind : ∀ (q : Str) (cl : List (Str × Addr)) (dt : Addr) (dv doc pm cv ctv : Value) (s2 : Shared), s2.heap.get? dt = some (PySem.W.kdv_tup [dv]) → BindsTo s2 (PySem.W.kdv_fn "<lambda>" q params (.expr body) scope cl (.ref dt) doc pm cv ctv) ⟨[], []⟩ [(y, dv)])
    (hbody : ∀ (A : Around) (outer : List Env) (s : Shared) (H : Hp) (E : XK) (f c' : Addr), Room k (A.deeper (lamEnv X scope s.heap.objs.size f c')) → PE (lamCx X A outer s H E scope f c') body (t E))
    (hdb : (x == ("__debug__" : Str)) = false := by decide) (hd : (a == ("__debug__" : Str)) = false := by decide) (hcd : (a == ("__classdict__" : Str)) = false := by decide) :
    PE X (.Call (.Name x p) [.Lambda params body scope lpos] [] pos) (tLam T TT t) := by
  refine ⟨fun pins s σ H Q I h => ?_⟩
  obtain ⟨hT, h⟩ := h
  refine wpAny_Call_Name_kw (ld_glob I hg hm ?_ hdb)
  refine PySem.W.callWith_K (h₀ := X.base) I.ok.mod.kin hk ?_ (by rfl) (by rfl)
  show wpAny _ _ (spliced ((false, eval (.Lambda params body scope lpos) X.env) :: backTo pos (starEach [] X.env))) _ _ s
  refine Calls.spliced_cons (lam_makeD I TB hcode hmT hu hT hd0 hk0 (L.has I.ok) fun f c' dt dv doc pm' ctv H1 s' I1 eN T1 hdt hdn hdf _ hf hfn hfr hco => ?_)
  refine Calls.spliced_nil ⟨I1.kIn, ?_⟩
  have rc : codeAny (model X.prog X.w) X.A (.call (.ref g) ⟨[.ref f], []⟩) (CR C8.CX0 X.stack X.prog X.w H1 s' Q C8.E0) s' := by
    refine run_ofS (N := Ng) (ps := [a]) (us := [.ref f]) (vs := [.ref f]) lk hcg Sg hr I1.env0 (hb s' [.ref f] I1.kIn rfl) (.cons rfl .nil) rfl fun hr' => ?_
    obtain ⟨t', ht', hq'⟩ := hG f c' s' H1 Q (fun E H' Q' => t E σ H' Q') (fun W pn xe E p1 p2 tk hW => pe_actD (i := 0) I1 L hy hdt hdn hdf hf hfn hfr (fun s2 h2 => hbind _ _ _ _ _ _ _ _ s2 h2) tk hW hr' (fun A outer s H hr2 => hbody A outer s H E f c' hr2) hNg hva hd hcd) hco (h H1 eN T1)
    exact ⟨t', ht'.nox, hq'⟩
  refine wpAny_call (codeAny_mono rc fun r s2 hq => ?_)
  cases r with
  | error e => exact (show False from hq).elim
  | ok fl =>
    cases fl with
    | ret u => exact I1.after hq
    | next => exact False.elim hq
    | brk => exact False.elim hq
    | cont => exact False.elim hq
end
end LamD
end
section
/-! SwKit3: how many different ones a list has; whether a dict is empty. -/
namespace Sk
open PySem PySem.Spec PyProof.Rows L2 RZ
/-- len(set(xs)), xs ints, some twice -/
def tLenSetD (K : PySem.W.Frag) (ta : TE) : TE := fun σ H Q => ta σ H fun x H1 => ∃ (l : Addr) (ns : List Int), x = .ref l ∧ SqL K H1 l (ns.map V.int) ∧ ns.length ≤ 4000 ∧ Q (.int ((PyProof.Rows.firstMet (fun i => ns.getD i 0) ns.length).length : Nat)) H1
theorem pe_lenSetD {X : Cx} (K : PySem.W.Frag) (hK : X.K = K) {a : Expr} {ta : TE} {p p2 q pos : Pos} (hg : Gl X "len") (hm : X.mg "len" = none) (hg2 : Gl X "set") (hm2 : X.mg "set" = none) (ha : PE X a ta) (hc : X.calm = true := by rfl)
    (na : starEach [a] X.env = (false, eval a X.env) :: starEach [] X.env := by rfl) : PE X (.Call (.Name "len" p) [.Call (.Name "set" p2) [a] [] q] [] pos) (tLenSetD K ta) := by
  subst hK
  refine ⟨fun pins s σ H Q I h => ?_⟩
  refine Call_ (ld_blt I hg hm boot_len ?_)
  refine PyProof.Rows.callWith_builtin1 (PyProof.Rows.args_cons ?_ rfl) rfl rfl
  refine Call_ (ld_blt I hg2 hm2 boot_set ?_)
  refine PyProof.Rows.callWith_type1 (PyProof.Rows.args_cons (thn (ha.run pins s σ H _ I h) fun v s1 ⟨x, H1, I1, r1, q1⟩ => PyProof.Rows.args_nil ?_) na) na rfl
  obtain ⟨l, ns, rfl, hq, hl, q1⟩ := q1
  cases r1
  obtain ⟨its, r, pl, hz⟩ := I1.list hq
  have hlen : its.toArray.size = ns.length := by rw [List.size_toArray, ← r.length, List.length_map]
  refine call_set_list (I1.ok.hd hc) pl.isList (by simpa using intsAre_vals r) (by rw [hlen]; unfold scanBound; omega) fun h' tk hS hk => ?_
  refine PyProof.Rows.args_nil ?_
  rw [hlen] at hS
  obtain ⟨o, es, ep, t, ho, hex, hd, _, _, _, hf, hn⟩ := hS
  have hfm : (PyProof.Rows.firstMet (fun i => ns.getD i 0) ns.length).length ≤ ns.length := PyProof.Rows.firstMet_length_le _ _
  have I2 : Inv X pins σ H1 { s1 with heap := h', toks := tk } := I1.kept fun b o e => hk b o (Heap.lt_size e) e
  exact call_len_set ho hex hd hf (by rw [hn] <;> omega) ⟨.int _, H1, I2.tok _, ⟨_, by rw [hn]⟩, q1⟩
def rEqD0 : R2 := fun x y H Q => ∃ (a b : Addr) (ks : List (Key × V)), x = .ref a ∧ y = .ref b ∧ H a = some (.dK ks) ∧ H b = some (.dK []) ∧ Q (.bl (decide (ks.length = 0))) H
theorem op_eqD0 {X : Cx} (hu : X.A.units + 64 < cLine) : OpR X (compareOp .Eq) rEqD0 := by
  intro pins s σ H x y v u Q I rx ry h
  obtain ⟨a, b, ks, rfl, rfl, ea, eb, q⟩ := h
  obtain rfl : v = Value.ref a := rx
  obtain rfl : u = Value.ref b := ry
  obtain ⟨_, ya, va, ra, da⟩ := (show ObjOk X.prog X.w H s.heap a (.dK ks) from I.hok a _ ea)
  obtain ⟨_, yb, vb, rb, db⟩ := (show ObjOk X.prog X.w H s.heap b (.dK []) from I.hok b _ eb)
  have hb0 : vb = [] := by
    have := rb.length
    cases vb with
    | nil => rfl
    | cons z l => simp at this
  subst hb0
  refine PySem.W.keq_eq (knd := mixKind X.prog X.w) (r := true) ya yb da db (by omega) (fun e => ?_) (fin_bl I q ?_)
  · have : va = [] := List.length_eq_zero_iff.mp (by simpa using e)
    subst this; exact .nil
  · rw [ra.length]
    by_cases z : va.length = 0 <;> simp [z]
/-- how many different ones -/
theorem firstMet_fold (ns : List Int) : ∀ i, i ≤ ns.length → PyProof.Rows.firstMet (fun i => ns.getD i 0) i = (ns.take i).foldl (fun a r => if r ∈ a then a else a ++ [r]) []
  | 0, _ => rfl
  | i + 1, hi => by
    have hlt : i < ns.length := hi
    have e1 : ns.getD i 0 = ns[i] := by
      rw [List.getD_eq_getElem?_getD, List.getElem?_eq_getElem hlt] <;> rfl
    rw [PyProof.Rows.firstMet_succ, firstMet_fold ns i (Nat.le_of_lt hlt), List.take_add_one, List.getElem?_eq_getElem hlt, List.foldl_append]
    generalize (ns.take i).foldl (fun a r => if r ∈ a then a else a ++ [r]) [] = acc
    show (if acc.any (· == ns.getD i 0) then acc else acc ++ [ns.getD i 0]) = if ns[i] ∈ acc then acc else acc ++ [ns[i]]
    rw [e1]
    by_cases z : ns[i] ∈ acc
    · rw [if_pos z, if_pos (List.any_eq_true.mpr ⟨_, z, by simp⟩)]
    · rw [if_neg z, if_neg]
      intro w
      obtain ⟨y, hy, ey⟩ := List.any_eq_true.mp w
      exact z ((eq_of_beq ey) ▸ hy)
end Sk
end
section
/-! SwVx: what views tell, plain: rooms each once, rooms of a hand alone. -/
namespace Sk
open PySem PySem.Spec PyProof.Rows L2 SW
theorem addU_mem {a : List Int} {r s : Int} : s ∈ addU a r ↔ s ∈ a ∨ s = r := by
  unfold addU
  split
  · rename_i h
    constructor
    · exact .inl
    · rintro (z | z)
      · exact z
      · rw [z]; exact h
  · rw [List.mem_append, List.mem_singleton]
theorem addU_nd {a : List Int} {r : Int} (h : a.Nodup) : (addU a r).Nodup := by
  unfold addU
  split
  · exact h
  · rename_i n
    rw [List.nodup_append]
    refine ⟨h, by simp, fun x hx y hy e => ?_⟩
    have : y = r := by simpa using hy
    rw [e, this] at hx; exact n hx
theorem addUs_mem {s : Int} : ∀ (l a : List Int), s ∈ l.foldl addU a ↔ s ∈ a ∨ s ∈ l
  | [], a => by simp
  | r :: l, a => by
    rw [List.foldl_cons, addUs_mem l (addU a r), addU_mem, List.mem_cons, or_assoc]
theorem addUs_nd : ∀ (l a : List Int), a.Nodup → (l.foldl addU a).Nodup
  | [], _, h => h
  | r :: l, a, h => by rw [List.foldl_cons]; exact addUs_nd l _ (addU_nd h)
theorem heldL_flat (fs : Fs) (ts : List (Option Int)) : heldL fs ts = ((ts.map (path fs)).flatten).foldl addU [] := by
  unfold heldL
  have key : ∀ (ts : List (Option Int)) (a : List Int), ts.foldl (fun a t => (path fs t).foldl addU a) a = ((ts.map (path fs)).flatten).foldl addU a := by
    intro ts
    induction ts with
    | nil => intro a; rfl
    | cons t ts ih => intro a; rw [List.foldl_cons, ih, List.map_cons, List.flatten_cons, List.foldl_append]
  exact key ts []
theorem heldL_mem {fs : Fs} {ts : List (Option Int)} {r : Int} : r ∈ heldL fs ts ↔ ∃ t ∈ ts, r ∈ path fs t := by
  rw [heldL_flat, addUs_mem, List.mem_flatten]
  constructor
  · rintro (z | ⟨l, hl, h⟩)
    · simp at z
    · obtain ⟨t, ht, rfl⟩ := List.mem_map.mp hl
      exact ⟨t, ht, h⟩
  · rintro ⟨t, ht, h⟩
    exact .inr ⟨_, List.mem_map.mpr ⟨t, ht, rfl⟩, h⟩
theorem heldL_nd (fs : Fs) (ts : List (Option Int)) : (heldL fs ts).Nodup := by
  rw [heldL_flat]; exact addUs_nd _ _ (by simp)
theorem same_len {l m : List Int} (h1 : l.Nodup) (h2 : m.Nodup) (h : ∀ r, r ∈ l ↔ r ∈ m) : l.length = m.length := ((List.perm_ext_iff_of_nodup h1 h2).mpr h).length_eq
/-- all hands' rooms, where no place is kept -/
theorem held_all {W : Wd} (F : WFW W) (h : W.marks = []) : (heldL W.frames W.tops).length = W.frames.length := by
  rw [len_ks]
  refine same_len (heldL_nd _ _) F.wf.nd fun r => ?_
  rw [heldL_mem]
  constructor
  · rintro ⟨t, ht, hr⟩
    obtain ⟨f, hf⟩ := (F.wf.path t (F.ref (.inl ht))).in r hr
    exact mem_ks.mpr ⟨f, hf⟩
  · intro hr
    obtain ⟨f, hf⟩ := mem_ks.mp hr
    obtain ⟨y, hy, hm⟩ := F.reached hf
    refine ⟨y, ?_, hm⟩
    rcases List.mem_append.mp hy with z | z
    · exact z
    · rw [h] at z; simp [mv] at z
/-- a room that another hand or a place needs -/
def InOther (W : Wd) (h : Int) (a : Int) : Prop := (∃ (j : Nat) (y : Option Int), j ≠ h.toNat ∧ W.tops[j]? = some y ∧ a ∈ path W.frames y) ∨ ∃ y ∈ mv W.marks, a ∈ path W.frames y
theorem inOther_root {W : Wd} (F : WFW W) {h : Int} {a : Int} {y : Option Int} (hy : y ∈ roots W) (n : y ≠ top W h ∨ y ∈ mv W.marks) (ha : a ∈ path W.frames y) : InOther W h a := by
  rcases n with n | n
  · rcases List.mem_append.mp hy with z | z
    · obtain ⟨j, hj⟩ := List.mem_iff_getElem?.mp z
      refine .inl ⟨j, y, fun e => n ?_, hj, ha⟩
      unfold top
      rw [List.getD_eq_getElem?_getD, ← e, hj]; rfl
    · exact .inr ⟨y, z, ha⟩
  · exact .inr ⟨y, n, ha⟩
/-- a path through b has all beneath b -/
theorem path_through {fs : Fs} {y x : Option Int} {m l : List Int} (pm : Path fs y m) (p : Path fs x l) {j : Nat} {b : Int} (hb : b ∈ m) (hj : l[j]? = some b) : ∀ i a, j ≤ i → l[i]? = some a → a ∈ m := by
  intro i a hi ha
  obtain ⟨k, hk⟩ := List.mem_iff_getElem?.mp hb
  obtain ⟨f, hf, q1⟩ := pm.drop hk
  obtain ⟨g, hg, q2⟩ := p.drop hj
  rw [hf] at hg
  cases hg
  have e : m.drop (k + 1) = l.drop (j + 1) := q1.eq.symm.trans q2.eq
  rcases Nat.lt_or_ge j i with z | z
  · have : a ∈ l.drop (j + 1) := by
      refine List.mem_iff_getElem?.mpr ⟨i - (j + 1), ?_⟩
      rw [List.getElem?_drop, show j + 1 + (i - (j + 1)) = i by omega]; exact ha
    rw [← e] at this
    exact List.mem_of_mem_drop this
  · have : i = j := by omega
    subst this
    rw [hj] at ha; cases ha; exact hb
theorem needed_other {W : Wd} (F : WFW W) {h : Int} (k : hOk W h) {l : List Int} (p : Path W.frames (top W h) l) {j : Nat} {b : Int} (hj : l[j]? = some b) (hn : 1 < nd W.frames b) : InOther W h b := by
  obtain ⟨f, hf⟩ := p.in b (List.mem_of_getElem? hj)
  rw [nd_of hf] at hn
  have nb := F.wf.nb b f hf
  have co := cW_oth k b
  have ndl := p.nodup
  by_cases o : 1 ≤ oth W h b
  · have hb : b ∈ path W.frames (some b) := by
      have q := F.wf.path (some b) fun r e => by cases e; exact ⟨f, hf⟩
      generalize path W.frames (some b) = z at q ⊢
      cases q with
      | cons e1 e2 => exact List.mem_cons_self ..
    unfold oth at o
    by_cases o1 : 1 ≤ cR (mv W.marks) b
    · exact .inr ⟨some b, cR_mem o1, hb⟩
    · have o2 := cR_mem (l := W.tops.set h.toNat none) (r := b) (by omega)
      obtain ⟨i, hi⟩ := List.mem_iff_getElem?.mp o2
      have ni : i ≠ h.toNat := fun z => by
        subst z
        rw [List.getElem?_set] at hi
        split at hi
        · split at hi
          · cases hi
          · cases hi
        · rename_i w; exact w rfl
      rw [List.getElem?_set_ne (Ne.symm ni)] at hi
      exact .inl ⟨i, some b, ni, hi, hb⟩
  · -- another frame stands on b
    have key : ∃ kk g, lk W.frames kk = some g ∧ g.below = some b ∧ ∀ i, l[i]? = some kk → l[i + 1]? ≠ some b := by
      cases j with
      | zero =>
        have : 1 ≤ cb W.frames b := by
          have : one (top W h) b ≤ 1 := by unfold one; split <;> omega
          omega
        obtain ⟨kk, g, h1, h2⟩ := cb_pos F.wf.nd this
        exact ⟨kk, g, h1, h2, fun i _ e => absurd e (fun e => nodup_ne ndl hj e (by omega) rfl)⟩
      | succ j =>
        have jl : j < l.length := by
          rcases Nat.lt_or_ge (j + 1) l.length with z | z
          · omega
          · rw [List.getElem?_eq_none z] at hj; cases hj
        obtain ⟨f', h1, h2⟩ := p.next (List.getElem?_eq_getElem jl) hj
        have ntop : top W h ≠ some b := fun z => by
          have h0 : l[0]? = some b := by
            rw [z] at p
            cases p with
            | cons _ _ => rfl
          exact nodup_ne ndl h0 hj (by omega) rfl
        have z1 : one (top W h) b = 0 := by
          unfold one
          split
          · rename_i q; exact absurd q ntop
          · rfl
        obtain ⟨kk, g, h3, h4, h5⟩ := cb_other F.wf.nd h1 h2 (by omega)
        refine ⟨kk, g, h4, h5, fun i e1 e2 => h3 ?_⟩
        have : i + 1 = j + 1 := Decidable.byContradiction fun z => nodup_ne ndl e2 hj z rfl
        have : i = j := by omega
        subst this
        rw [List.getElem?_eq_getElem jl] at e1
        exact (Option.some.inj e1).symm
    obtain ⟨kk, g, h1, h2, h3⟩ := key
    obtain ⟨y, hy, hm⟩ := F.reached h1
    have py := F.wf.path y (F.root hy)
    obtain ⟨i, hi⟩ := List.mem_iff_getElem?.mp hm
    obtain ⟨f', q1, q2⟩ := py.drop hi
    rw [h1] at q1
    cases q1
    rw [h2] at q2
    have hb : b ∈ path W.frames y := by
      have : b ∈ (path W.frames y).drop (i + 1) := by
        generalize (path W.frames y).drop (i + 1) = z at q2
        cases q2 with
        | cons _ _ => exact List.mem_cons_self ..
      exact List.mem_of_mem_drop this
    refine inOther_root F hy (.inl fun z => ?_) hb
    rw [z, p.eq] at hi
    rw [z, p.eq] at q2
    refine h3 i hi ?_
    have e : (l.drop (i + 1))[0]? = some b := by
      generalize l.drop (i + 1) = zz at q2
      cases q2 with
      | cons _ _ => rfl
    rw [List.getElem?_drop] at e
    exact e
/-- the first rooms that nobody else needs are those in no other pile -/
theorem alone_iff {W : Wd} (F : WFW W) {h : Int} (k : hOk W h) {i : Nat} {a : Int} (ha : (path W.frames (top W h))[i]? = some a) : ¬ InOther W h a ↔ ∀ j b, j ≤ i → (path W.frames (top W h))[j]? = some b → nd W.frames b ≤ 1 := by
  have p := F.tpath h
  constructor
  · intro n j b hj hb
    refine Decidable.byContradiction fun z => n ?_
    have io := needed_other F k p hb (by omega)
    rcases io with ⟨jj, y, n1, n2, n3⟩ | ⟨y, n1, n2⟩
    · exact .inl ⟨jj, y, n1, n2, path_through (F.wf.path y (F.ref (.inl (List.mem_of_getElem? n2)))) p n3 hb i a hj ha⟩
    · exact .inr ⟨y, n1, path_through (F.wf.path y (F.ref (.inr n1))) p n2 hb i a hj ha⟩
  · intro hn io
    rcases io with ⟨jj, y, n1, n2, n3⟩ | ⟨y, n1, n2⟩
    · exact excl F k p i ha hn y _ (F.wf.path y (F.ref (.inl (List.mem_of_getElem? n2)))) (other_top n2 n1) n3
    · exact excl F k p i ha hn y _ (F.wf.path y (F.ref (.inr n1))) (other_mark n1) n2
theorem tw_filter {p q : Int → Bool} : ∀ {l : List Int}, (∀ (i : Nat) (a : Int), l[i]? = some a → (p a = true ↔ ∀ (j : Nat) (b : Int), j ≤ i → l[j]? = some b → q b = true)) → l.filter p = l.takeWhile q
  | [], _ => rfl
  | b :: l, h => by
    have h0 := h 0 b rfl
    by_cases qb : q b = true
    · have pb : p b = true := h0.mpr fun j c hj hc => by
        have : j = 0 := by omega
        subst this
        cases hc; exact qb
      rw [List.filter_cons_of_pos pb, List.takeWhile_cons, if_pos qb]
      congr 1
      refine tw_filter fun i a ha => ?_
      rw [h (i + 1) a (by simpa using ha)]
      constructor
      · intro z j c hj hc
        exact z (j + 1) c (by omega) (by simpa using hc)
      · intro z j c hj hc
        cases j with
        | zero => cases hc; exact qb
        | succ j => exact z j c (by omega) (by simpa using hc)
    · rw [List.takeWhile_cons, if_neg qb, List.filter_eq_nil_iff.mpr]
      intro a ha pa
      obtain ⟨i, hi⟩ := List.mem_iff_getElem?.mp ha
      exact qb ((h i a hi).mp pa 0 b (Nat.zero_le _) rfl)
theorem alone_filter {W : Wd} (F : WFW W) {h : Int} (k : hOk W h) {os : List Int} (ho : ∀ a, a ∈ os ↔ InOther W h a) : (path W.frames (top W h)).filter (fun r => !decide (r ∈ os)) = aloneL W.frames (path W.frames (top W h)) := by
  unfold aloneL
  refine tw_filter fun i a ha => ?_
  have := alone_iff F k ha
  rw [← ho] at this
  simp only [Bool.not_eq_true', decide_eq_false_iff_not, decide_eq_true_eq]
  exact this
theorem kept_rooms' {W W' : Wd} (F' : WFW W') (s : SW.Sub W'.frames W.frames) (r : Int) : r ∈ ks W'.frames ↔ ∃ y ∈ roots W', r ∈ path W.frames y := by
  rw [mem_ks]
  constructor
  · rintro ⟨f, hf⟩
    obtain ⟨y, hy, hr⟩ := F'.reached hf
    exact ⟨y, hy, by rw [← (vl_sub F'.wf s y (F'.root hy)).1]; exact hr⟩
  · rintro ⟨y, hy, hr⟩
    rw [← (vl_sub F'.wf s y (F'.root hy)).1] at hr
    exact (F'.wf.path y (F'.root hy)).in r hr
/-- the rooms left once a hand's pile is gone -/
theorem left_alone {W W' : Wd} (F : WFW W) (F' : WFW W') {h : Int} (k : hOk W h) (s : SW.Sub W'.frames W.frames) (et : W'.tops = W.tops.set h.toNat none) (em : W'.marks = W.marks) : W'.frames.length + (aloneL W.frames (path W.frames (top W h))).length = W.frames.length := by
  have hin : ∀ r, r ∈ ks W'.frames ↔ InOther W h r := fun r => by
    have h1 := kept_rooms' F' s r
    rw [h1]
    constructor
    · rintro ⟨y, hy, hr⟩
      rcases List.mem_append.mp hy with z | z
      · rw [et] at z
        obtain ⟨i, hi⟩ := List.mem_iff_getElem?.mp z
        by_cases q : i = h.toNat
        · subst q
          rw [List.getElem?_set] at hi
          split at hi
          · split at hi
            · cases hi
              have : path W.frames none = [] := Path.eq .nil
              rw [this] at hr; simp at hr
            · cases hi
          · rename_i w; exact absurd rfl w
        · rw [List.getElem?_set_ne (Ne.symm q)] at hi
          exact .inl ⟨i, y, q, hi, hr⟩
      · rw [em] at z; exact .inr ⟨y, z, hr⟩
    · rintro (⟨i, y, n1, n2, n3⟩ | ⟨y, n1, n2⟩)
      · refine ⟨y, List.mem_append_left _ ?_, n3⟩
        rw [et]
        exact List.mem_of_getElem? (i := i) (by rw [List.getElem?_set_ne (Ne.symm n1)]; exact n2)
      · exact ⟨y, List.mem_append_right _ (by rw [em]; exact n1), n2⟩
  have hf := alone_filter F k hin
  rw [← hf, len_ks W.frames, len_ks W'.frames, ← List.length_append]
  refine same_len ?_ F.wf.nd fun r => ?_
  · rw [List.nodup_append]
    refine ⟨F'.wf.nd, (F.tpath h).nodup.filter _, fun a ha b hb e => ?_⟩
    subst e
    have := (List.mem_filter.mp hb).2
    simp [ha] at this
  · rw [List.mem_append, List.mem_filter]
    constructor
    · rintro (z | ⟨z, _⟩)
      · obtain ⟨g, hg⟩ := mem_ks.mp z
        obtain ⟨f, hf, _⟩ := s r g hg
        exact mem_ks.mpr ⟨f, hf⟩
      · obtain ⟨f, hf⟩ := (F.tpath h).in r z
        exact mem_ks.mpr ⟨f, hf⟩
    · intro hr
      by_cases z : r ∈ ks W'.frames
      · exact .inl z
      · refine .inr ⟨?_, by simp [z]⟩
        obtain ⟨f, hf⟩ := mem_ks.mp hr
        obtain ⟨y, hy, hm⟩ := F.reached hf
        refine Decidable.byContradiction fun w => z ((hin r).mpr (inOther_root F hy (.inl fun e => w (by rw [← e]; exact hm)) hm))
end Sk
end
section
/-! SwE: woods made by calls alone: a full one; hands on piles of their own. Plain. -/
namespace SW
/-- a call that can be done -/
structure Called (W : Wd) (h : Int) (vs : List Int) (r : Int) (W' : Wd) : Prop where
  wf : WFW W'
  new : lk W.frames r = none
  rooms : W'.rooms = W.rooms
  marks : W'.marks = W.marks
  tops : W'.tops = W.tops.set h.toNat (some r)
  frames : W'.frames = pt W.frames r ⟨top W h, vs, 1⟩
theorem call_do {W : Wd} (F : WFW W) {h : Int} {vs : List Int} (k : hOk W h) (k3 : vs.length ≤ 3) (room : (W.frames.length : Int) + 1 ≤ W.rooms) : ∃ r W', doCall W h vs = .ok (r, W') ∧ Called W h vs r W' := by
  have e : doCall W h vs = .ok (newRoom W.rooms W.frames, { W with frames := pt W.frames (newRoom W.rooms W.frames) ⟨top W h, vs, 1⟩, tops := W.tops.set h.toNat (some (newRoom W.rooms W.frames)) }) := by
    unfold doCall
    rw [if_neg (fun z => z k), if_neg (by omega), if_neg (by omega)]
  obtain ⟨_, f, _, _, n, _⟩ := doCall_ok F e
  exact ⟨_, _, e, f, n, rfl, rfl, rfl, rfl⟩
theorem top_set {W W' : Wd} {h : Int} {x : Option Int} (k : hOk W h) (e : W'.tops = W.tops.set h.toNat x) : top W' h = x ∧ ∀ j, hOk W j → j ≠ h → top W' j = top W j := by
  obtain ⟨a, b⟩ := k
  constructor
  · unfold top
    rw [e, List.getD_eq_getElem?_getD, List.getElem?_set_self (by omega)]; rfl
  · intro j ⟨c, d⟩ n
    unfold top
    rw [e, List.getD_eq_getElem?_getD, List.getD_eq_getElem?_getD, List.getElem?_set_ne (by omega)]
theorem Called.len {W W' : Wd} {h r : Int} {vs : List Int} (C : Called W h vs r W') : W'.frames.length = W.frames.length + 1 := by
  rw [C.frames, len_pt_new C.new]
theorem Called.path {W W' : Wd} {h r : Int} {vs : List Int} (C : Called W h vs r W') (F : WFW W) (k : hOk W h) : SW.path W'.frames (top W' h) = r :: SW.path W.frames (top W h) ∧ ∀ j, hOk W j → j ≠ h → SW.path W'.frames (top W' j) = SW.path W.frames (top W j) := by
  obtain ⟨t1, t2⟩ := top_set k C.tops
  have old : ∀ j, Path W'.frames (top W j) (SW.path W.frames (top W j)) := fun j => by
    rw [C.frames]; exact path_pt_new C.new (F.tpath j)
  refine ⟨?_, fun j hj n => ?_⟩
  · rw [t1]
    exact (Path.cons (f := ⟨top W h, vs, 1⟩) (by rw [C.frames, lk_pt_same]) (old h)).eq
  · rw [t2 j hj n]; exact (old j).eq
/-! ### a full wood -/
structure Ch (R : Int) (i : Nat) (W : Wd) : Prop where
  wf : WFW W
  rooms : W.rooms = R
  tops : W.tops.length = 2
  len : W.frames.length = i
  pl : (path W.frames (top W 0)).length = i
  sl : ∀ r f, lk W.frames r = some f → f.slots.length = 2
theorem Ch.step {R : Int} {i : Nat} {W : Wd} (C : Ch R i W) (h : (i : Int) < R) {vs : List Int} (k : vs.length = 2) : ∃ r W', doCall W 0 vs = .ok (r, W') ∧ Ch R (i + 1) W' := by
  have h0 : hOk W 0 := ⟨by omega, by rw [C.tops]; omega⟩
  obtain ⟨r, W', e, D⟩ := call_do C.wf h0 (vs := vs) (by omega) (by rw [C.len, C.rooms]; omega)
  obtain ⟨p, _⟩ := D.path C.wf h0
  refine ⟨r, W', e, D.wf, D.rooms.trans C.rooms, by rw [D.tops, List.length_set]; exact C.tops, by rw [D.len, C.len], by rw [p, List.length_cons, C.pl], fun q f hq => ?_⟩
  rw [D.frames] at hq
  by_cases z : q = r
  · subst z; rw [lk_pt_same] at hq; cases hq; exact k
  · rw [lk_pt_ne z] at hq; exact C.sl q f hq
theorem Ch.slot {R : Int} {i : Nat} {W : Wd} (C : Ch R i W) {vs : List Int} (k : 3 < vs.length) : doCall W 0 vs = .error .slot := by
  unfold doCall
  rw [if_neg (fun z => z ⟨by omega, by rw [C.tops]; omega⟩), if_pos k]
theorem Ch.room {R : Int} {i : Nat} {W : Wd} (C : Ch R i W) (h : (i : Int) = R) {vs : List Int} (k : vs.length ≤ 3) : doCall W 1 vs = .error .room := by
  unfold doCall
  rw [if_neg (fun z => z ⟨by omega, by rw [C.tops]; omega⟩), if_neg (by omega), if_pos (by rw [C.len, C.rooms]; omega)]
theorem Ch.branch {R : Int} {i : Nat} {W : Wd} (C : Ch R i W) (h : (i : Int) = R) (h1 : 1 ≤ i) : ∃ W', doBranch W 0 1 = .ok W' ∧ WFW W' ∧ doPut W' 1 0 2 7 = .error .slot ∧ doPut W' 1 0 1 7 = .error .room ∧ doPut W' 1 R 0 7 = .error .call := by
  have k0 : hOk W 0 := ⟨by omega, by rw [C.tops]; omega⟩
  have k1 : hOk W 1 := ⟨by omega, by rw [C.tops]; omega⟩
  have e : doBranch W 0 1 = .ok (turnTo W 1 (top W 0)) := by
    unfold doBranch
    rw [if_neg (fun z => z k0), if_neg (fun z => z k1)]
  have F := C.wf
  have T := turnTo_ok F k1 (x := top W 0) (F.topIn 0)
  generalize eW : turnTo W 1 (top W 0) = W' at e T
  have et : W'.tops = W.tops.set (1 : Int).toNat (top W 0) := by rw [← eW]; rfl
  have er : W'.rooms = W.rooms := by rw [← eW]; rfl
  obtain ⟨t1, t2⟩ := top_set k1 et
  have t0 := t2 0 k0 (by omega)
  have k1' : hOk W' 1 := ⟨by omega, by rw [et, List.length_set, C.tops]; omega⟩
  -- nothing is left: hand 1 had a pile of its own that is empty or shares nothing
  have p' : path W'.frames (top W' 1) = path W.frames (top W 0) := by
    have := T.wfw.tpath 1
    rw [t1] at this ⊢
    exact ((this.up T.sub).eq).symm
  have lp : (path W'.frames (top W' 1)).length = i := by rw [p', C.pl]
  have pw := T.wfw.tpath 1
  -- the top
  obtain ⟨r, hr⟩ : ∃ r, top W 0 = some r := by
    cases q : top W 0 with
    | none => have := C.pl; rw [q, Path.eq .nil] at this; simp at this; omega
    | some r => exact ⟨r, rfl⟩
  rw [hr] at t1
  obtain ⟨f, m, hf, hm, hp⟩ : ∃ f m, lk W'.frames r = some f ∧ Path W'.frames f.below m ∧ path W'.frames (top W' 1) = r :: m := by
    rw [t1] at pw ⊢; exact pw.of_some
  have nn : 2 ≤ f.needs := by
    have e1 := T.wfw.wf.nb r f hf
    have l2 : W.tops.length = 2 := C.tops
    have e2 : W'.tops = [some r, some r] := by
      have l2' : W'.tops.length = 2 := by rw [et, List.length_set, l2]
      have g0 := top_get (W := W') (h := 0) ⟨by omega, by rw [l2']; omega⟩
      have g1 := top_get k1'
      rw [t0, hr] at g0
      rw [t1] at g1
      match W'.tops, l2', g0, g1 with
      | [a, b], _, g0, g1 =>
        have g0 : some a = some (some r) := g0
        have g1 : some b = some (some r) := g1
        cases g0; cases g1; rfl
    have e3 : 2 ≤ cW W' r := by
      unfold cW; rw [e2]
      simp only [cR, one_same]; omega
    omega
  have lt : W'.frames.length = W.frames.length → True := fun _ => trivial
  have path_in : ∀ q ∈ path W'.frames (top W' 1), ∃ f, lk W'.frames q = some f := pw.in
  have flen : (W'.frames.length : Int) = R := by
    have a := pw.len
    rw [lp] at a
    have b : W'.frames.length ≤ W.frames.length := by
      have ndk : (ks W'.frames).Nodup := T.wfw.wf.nd
      have := sub_len (m := ks W.frames) ndk fun q hq => by
        obtain ⟨g, hg⟩ := mem_ks.mp hq
        obtain ⟨g', h', _⟩ := T.sub q g hg
        exact mem_ks.mpr ⟨g', h'⟩
      rw [← len_ks, ← len_ks] at this; exact this
    have c := C.len
    omega
  have hR : R = W'.rooms := by rw [er, C.rooms]
  have sl2 : (SW.sl W'.frames ((path W'.frames (top W' 1)).getD 0 0)).length = 2 := by
    rw [hp]
    show (SW.sl W'.frames r).length = 2
    rw [sl_of hf]
    obtain ⟨g, hg, _, h3⟩ := T.sub r f hf
    rw [← h3]; exact C.sl r g hg
  have way0 : doWay W' 1 0 = .ok ([r], some 0) := by
    unfold doWay
    rw [if_neg (fun z => z k1'), if_neg (fun z => z ⟨by omega, by rw [lp]; omega⟩)]
    have e1 : (path W'.frames (top W' 1)).take ((0 : Int).toNat + 1) = [r] := by rw [hp]; rfl
    rw [e1]
    have e2 : sh W'.frames [r] = [0] := by
      have hd : (1 : Int) < nd W'.frames ([r].getD 0 0) := by show 1 < nd W'.frames r; rw [nd_of hf]; omega
      unfold sh
      show List.filter _ [0] = [0]
      rw [List.filter_cons, if_pos (by exact decide_eq_true hd), List.filter_nil]
    rw [e2]; rfl
  rw [hp] at sl2
  have sl2 : (SW.sl W'.frames r).length = 2 := sl2
  refine ⟨W', e, T.wfw, ?_, ?_, ?_⟩
  · unfold doPut
    rw [way0]
    show (if ¬ (0 ≤ (2 : Int) ∧ (2 : Int) < ((SW.sl W'.frames r).length : Int)) then _ else _) = _
    rw [if_pos (by rw [sl2]; omega)]
  · unfold doPut
    rw [way0]
    show (if ¬ (0 ≤ (1 : Int) ∧ (1 : Int) < ((SW.sl W'.frames r).length : Int)) then _ else if W'.rooms < (W'.frames.length : Int) + ((0 : Int) - ((0 : Nat) : Int) + 1) then _ else _) = _
    rw [if_neg (by rw [sl2]; omega), if_pos (by omega)]
  · unfold doPut doWay
    rw [if_neg (fun z => z k1'), if_pos (by rw [lp]; omega)]
/-! ### hands on piles of their own -/
structure Own (n : Nat → Nat) (W : Wd) : Prop where
  wf : WFW W
  rooms : W.rooms = 40
  tops : W.tops.length = 6
  marks : W.marks = []
  len : ∀ h : Nat, h < 6 → (path W.frames (top W (h : Int))).length = n h
  dis : ∀ h k : Nat, h < 6 → k < 6 → h ≠ k → ∀ r ∈ path W.frames (top W (h : Int)), r ∉ path W.frames (top W (k : Int))
theorem Own.hk {n : Nat → Nat} {W : Wd} (O : Own n W) {h : Nat} (hh : h < 6) : hOk W (h : Int) := ⟨by omega, by rw [O.tops]; omega⟩
theorem Own.step {n : Nat → Nat} {W : Wd} (O : Own n W) {h : Nat} (hh : h < 6) (l : W.frames.length < 40) {vs : List Int} (k : vs.length ≤ 3) : ∃ r W', doCall W (h : Int) vs = .ok (r, W') ∧ Own (fun j => if j = h then n h + 1 else n j) W' ∧ W'.frames.length = W.frames.length + 1 := by
  obtain ⟨r, W', e, D⟩ := call_do O.wf (O.hk hh) (vs := vs) k (by rw [O.rooms]; omega)
  obtain ⟨p, q⟩ := D.path O.wf (O.hk hh)
  have fr : ∀ j : Nat, r ∉ path W.frames (top W (j : Int)) := fun j z => by
    obtain ⟨f, hf⟩ := (O.wf.tpath (j : Int)).in r z
    rw [D.new] at hf; cases hf
  have qj : ∀ j : Nat, j < 6 → j ≠ h → path W'.frames (top W' (j : Int)) = path W.frames (top W (j : Int)) := fun j hj z => q _ (O.hk hj) (by omega)
  refine ⟨r, W', e, ⟨D.wf, D.rooms.trans O.rooms, by rw [D.tops, List.length_set]; exact O.tops, D.marks.trans O.marks, fun j hj => ?_, fun a b ha hb ab s hs => ?_⟩, D.len⟩
  · by_cases z : j = h
    · subst z; rw [if_pos rfl, p, List.length_cons, O.len j hj]
    · rw [if_neg z, qj j hj z, O.len j hj]
  · by_cases z : a = h
    · subst z
      rw [p] at hs
      rw [qj b hb (fun w => ab w.symm)]
      rcases List.mem_cons.mp hs with w | w
      · rw [w]; exact fr b
      · exact O.dis a b ha hb ab s w
    · rw [qj a ha z] at hs
      by_cases z2 : b = h
      · subst z2
        rw [p]
        intro w
        rcases List.mem_cons.mp w with w | w
        · rw [w] at hs; exact fr a hs
        · exact O.dis a b ha hb ab s hs w
      · rw [qj b hb z2]; exact O.dis a b ha hb ab s hs
theorem nodup_len {l m : List Int} (h1 : l.Nodup) (h2 : m.Nodup) (h : ∀ r, r ∈ l ↔ r ∈ m) : l.length = m.length := ((List.perm_ext_iff_of_nodup h1 h2).mpr h).length_eq
/-- the rooms of some different hands together -/
theorem Own.uni {n : Nat → Nat} {W : Wd} (O : Own n W) {L : List Int} {ds : List Nat} (nL : L.Nodup) (nD : ds.Nodup) (d6 : ∀ h ∈ ds, h < 6) (e : ∀ r, r ∈ L ↔ ∃ h ∈ ds, r ∈ path W.frames (top W (h : Int))) : L.length = (ds.map n).sum := by
  have key : ∀ ds : List Nat, ds.Nodup → (∀ h ∈ ds, h < 6) → ((ds.map fun h => path W.frames (top W ((h : Nat) : Int))).flatten).Nodup ∧ ((ds.map fun h => path W.frames (top W ((h : Nat) : Int))).flatten).length = (ds.map n).sum := by
    intro ds
    induction ds with
    | nil => intro _ _; exact ⟨List.nodup_nil, rfl⟩
    | cons a l ih =>
      intro nd h6
      obtain ⟨n1, n2⟩ := List.nodup_cons.mp nd
      obtain ⟨i1, i2⟩ := ih n2 fun h hh => h6 h (List.mem_cons_of_mem _ hh)
      have ha := h6 a List.mem_cons_self
      rw [List.map_cons, List.flatten_cons]
      refine ⟨List.nodup_append.mpr ⟨(O.wf.tpath _).nodup, i1, fun x hx y hy xy => ?_⟩, ?_⟩
      · subst xy
        obtain ⟨z, hz, hz2⟩ := List.mem_flatten.mp hy
        obtain ⟨b, hb, rfl⟩ := List.mem_map.mp hz
        exact O.dis a b ha (h6 b (List.mem_cons_of_mem _ hb)) (fun w => n1 (w ▸ hb)) x hx hz2
      · rw [List.length_append, i2, O.len a ha, List.map_cons, List.sum_cons]
  obtain ⟨k1, k2⟩ := key ds nD d6
  rw [← k2]
  refine nodup_len nL k1 fun r => ?_
  rw [e r, List.mem_flatten]
  constructor
  · rintro ⟨h, hh, hr⟩; exact ⟨_, List.mem_map.mpr ⟨h, hh, rfl⟩, hr⟩
  · rintro ⟨z, hz, hr⟩
    obtain ⟨h, hh, rfl⟩ := List.mem_map.mp hz
    exact ⟨h, hh, hr⟩
/-- another hand's pile is one's -/
structure Brd (n : Nat → Nat) (a b : Nat) (W' : Wd) : Prop where
  wf : WFW W'
  tops : W'.tops.length = 6
  same : path W'.frames (top W' (b : Int)) = path W'.frames (top W' (a : Int))
  len : (path W'.frames (top W' (a : Int))).length = n a
  fl : ∀ ds : List Nat, ds.Nodup → (∀ h, h ∈ ds ↔ h < 6 ∧ (h ≠ b ∨ h = a)) → W'.frames.length = (ds.map n).sum
theorem Own.brd {n : Nat → Nat} {W : Wd} (O : Own n W) {a b : Nat} (ha : a < 6) (hb : b < 6) : ∃ W', doBranch W (a : Int) (b : Int) = .ok W' ∧ Brd n a b W' := by
  have ka := O.hk ha
  have kb := O.hk hb
  have e : doBranch W (a : Int) (b : Int) = .ok (turnTo W b (top W a)) := by
    unfold doBranch
    rw [if_neg (fun z => z ka), if_neg (fun z => z kb)]
  have F := O.wf
  have T := turnTo_ok F kb (x := top W a) (F.topIn a)
  generalize eW : turnTo W b (top W a) = W' at e T
  have et : W'.tops = W.tops.set ((b : Nat) : Int).toNat (top W a) := by rw [← eW]; rfl
  have em : W'.marks = [] := by rw [← eW]; exact O.marks
  obtain ⟨t1, t2⟩ := top_set kb et
  have l6 : W'.tops.length = 6 := by rw [et, List.length_set, O.tops]
  have ta : top W' (a : Int) = top W a := by
    by_cases z : a = b
    · subst z; exact t1
    · exact t2 _ ka (by omega)
  have pth : ∀ j : Nat, path W'.frames (top W' (j : Int)) = path W.frames (top W' (j : Int)) := fun j => ((T.wfw.tpath j).up T.sub).eq.symm
  refine ⟨W', e, T.wfw, l6, by rw [t1, ta], by rw [pth, ta, O.len a ha], fun ds nD hd => ?_⟩
  rw [len_ks]
  refine O.uni T.wfw.wf.nd nD (fun h hh => ((hd h).mp hh).1) fun r => ?_
  constructor
  · intro hr
    obtain ⟨f, hf⟩ := mem_ks.mp hr
    obtain ⟨y, hy, hr2⟩ := T.wfw.reached hf
    unfold roots at hy
    rw [em] at hy
    have hy : y ∈ W'.tops := by simpa [mv] using hy
    obtain ⟨j, hj⟩ := List.getElem?_of_mem hy
    have j6 : j < 6 := by
      rcases Nat.lt_or_ge j W'.tops.length with w | w
      · omega
      · rw [List.getElem?_eq_none w] at hj; cases hj
    have ty : top W' (j : Int) = y := by
      unfold top
      rw [List.getD_eq_getElem?_getD, show ((j : Nat) : Int).toNat = j from by omega, hj]; rfl
    rw [← ty, pth] at hr2
    by_cases z : j = b
    · subst z
      rw [t1] at hr2
      exact ⟨a, (hd a).mpr ⟨ha, .inr rfl⟩, hr2⟩
    · rw [t2 _ (O.hk j6) (by omega)] at hr2
      exact ⟨j, (hd j).mpr ⟨j6, .inl z⟩, hr2⟩
  · rintro ⟨h, hh, hr⟩
    obtain ⟨h6, h2⟩ := (hd h).mp hh
    have th : top W' (h : Int) = top W h := by
      rcases h2 with z | z
      · exact t2 _ (O.hk h6) (by omega)
      · subst z; exact ta
    rw [← th, ← pth] at hr
    exact mem_ks.mpr ((T.wfw.tpath h).in r hr)
end SW
end
section
/-! SwKit4: sorted(set(xs)), xs ints; xs[::-1] off the written part. -/
namespace Sk
open PySem PySem.Spec PyProof.Rows L2 RZ
/-- a set just made -/
abbrev sO (w : World) : Obj := { cls := .type "set", dict := none, data := .set #[] 0 (.fresh 0 0 (!w.params.followText "set-order")) }
section
variable {P : Program} {w : World} {A : Around} {E : Value → Shared → Prop} {s : Shared}
/-- what a set of ns tells -/
def SetsOf (w : World) (s : Shared) (ns : List Int) (h' : Heap) (c : Nat) : Prop := SetR w h' s.heap.objs.size (fun j => decide (j ∈ ns)) c ∧ c ≤ ns.length ∧ ∀ b o, s.heap.get? b = some o → h'.get? b = some o
theorem set_of_list {l : Addr} {its : Array Value} (ns : List Int) {Q : Value → Shared → Prop} (hh : A.handled = none) (hl : s.heap.IsList l its) (hi : IntsAre its.toList ns) (hb : ns.length + 1 < scanBound)
    (k : ∀ (h' : Heap) (tk c : Nat), SetsOf w s ns h' c → Q (.ref s.heap.objs.size) { s with heap := h', toks := tk }) : wpAny (model P w) A (call (.type "set") [.ref l]) Q E s := by
  have sz : its.size = ns.length := by have q := IntsAre.length hi; rw [Array.length_toList] at q; exact q
  obtain ⟨c0, t0, mro⟩ := F.called_set.mro
  have f1 := F.called_set.made
  have f2 := F.called_set.sub
  have f3 := F.called_set.notType
  have f4 := F.called_set.canCreate
  have f5 := F.typeCall_set_1 (.ref l)
  refine wpAny_call (codeAny_of_tree ?_)
  show wpAny _ _ (callAny (.type "set") _) _ _ _
  refine wpAny_pure ⟨Code.quiet_builtin _ (by decide +kernel), codeAny_builtin F.entry_type_call ?_⟩
  rw [Around.under_plain (weight_type_call_type "set" [.ref l] []) rfl]
  repeat (any_goals (first | assumption | wp_step))
  refine codeAny_mono (code_set_led1 (.ref l) (E := E) (Q₁ := fun o s1 => o = .ref s.heap.objs.size ∧ s1 = { s with heap := s.heap.push (sO w) }) ⟨rfl, rfl⟩) fun r s1 hr => ?_
  cases r with
  | error e => exact hr
  | ok fl =>
    cases fl with
    | ret o =>
      obtain ⟨rfl, rfl⟩ := hr
      have g0 : (s.heap.push (sO w)).get? s.heap.objs.size = some (sO w) := Heap.get?_push_size _ rfl
      have ty : Shared.TypeIs { s with heap := s.heap.push (sO w) } (.ref s.heap.objs.size) "set" := ⟨_, g0, rfl⟩
      have f6 := F.called_set.init.lookup
      have f7 := F.called_set.init.bind (.ref s.heap.objs.size)
      repeat (any_goals (first | assumption | wp_step))
      refine codeAny_mono (codeAny_call_builtin (R := wants (fun r s2 => r = .none ∧ ∃ h' tk c, s2 = { s with heap := h', toks := tk } ∧ SetsOf w s ns h' c) E) F.called_set.init.plain F.entry_set_init (check_set_init_1 ty ?_)) fun r2 s2 hr2 => ?_
      · obtain ⟨ol, hol, hcl, nl, hdl⟩ := hl
        obtain ⟨ocls, odict, odata, oslots⟩ := ol
        simp only at hcl hdl
        subst hcl; subst hdl
        have hol2 : (s.heap.push (sO w)).get? l = some { cls := .type "list", dict := odict, data := .seq its nl, slots := oslots } := Heap.get?_push_of_some _ hol
        have f8 := F.sub_list_set
        have f9 := F.sub_list_frozenset
        have hn : (Value.type "list" == Value.type "dict") = false := by decide
        have hl2 : (s.heap.push (sO w)).IsList l its := ⟨_, hol2, rfl, nl, rfl⟩
        unfold Builtin.«set.__init__» noKeywords Builtin.Frozenset.updateFrom
        generalize ePI : pyIter = PI
        wp_walk
        subst ePI
        refine wpAny_pyIter_list hl2 ?_
        refine wpAny_bind (wpAny_runValue ?_)
        have ll : l < s.heap.objs.size := Heap.lt_size hol
        have hh3 : A.in1.in1.in1.handled = none := by simp [hh]
        have z1 : (s.heap.push (sO w)).objs.size = s.heap.objs.size + 1 := Heap.size_push ..
        have nI : l ≠ (s.heap.push (sO w)).objs.size := by rw [z1]; exact Nat.ne_of_lt (Nat.lt_succ_of_lt ll)
        have nS : s.heap.objs.size ∉ [(s.heap.push (sO w)).objs.size, l] := by
          rw [z1]; intro m
          rcases List.mem_cons.mp m with q | q
          · exact absurd q (Nat.ne_of_lt (Nat.lt_succ_self _))
          · exact absurd (show s.heap.objs.size = l by simpa using q) (Nat.ne_of_gt ll)
        have val : ∀ (i : Nat) (v : Value), its[i]? = some v → ∃ k t, ns[i]? = some k ∧ v = .int k t := fun i v hv => by
          have il : i < ns.length := by rw [← sz]; exact (Array.getElem?_eq_some_iff.mp hv).1
          obtain ⟨t, e⟩ := PyProof.Rows.IntsAre.int_at hi i v (by rw [Array.getElem?_toList]; exact hv)
          exact ⟨ns[i], t, List.getElem?_eq_getElem il, by rw [e, List.getD_eq_getElem?_getD, List.getElem?_eq_getElem il] <;> rfl⟩
        refine set_update_ints ((Walks.list hh3 _ l nI its).toS) s.heap.objs.size nS ns sz hb val (its.size - 0) 0 _ (by omega) (Nat.zero_le _) ⟨⟨_, Heap.get?_push_size _ rfl, rfl, rfl⟩, (hl2.push _)⟩ ?start ?fin
        case start => exact ⟨0, Nat.le_refl 0, setR_new_at (Heap.get?_push_of_some _ g0)⟩
        case fin =>
          intro s3 c' hm hc' hS3
          obtain ⟨h', g2, d', tk', os'⟩ := s3
          have e1 : g2 = s.gens := hm.gens
          have e2 : d' = s.drawn := hm.drawn
          have e3 : os' = s.os := hm.os
          subst e1; subst e2; subst e3
          show wpAny _ _ _ _ _ _
          refine wpAny_pure ?_
          show wpAny _ _ (ret Value.none) _ _ _
          rw [sz] at hc'
          refine wpAny_pure ⟨rfl, h', tk', c', rfl, hS3, hc', fun b o e => ?_⟩
          have hb0 : b < s.heap.objs.size := Heap.lt_size e
          refine hm.heap b o (fun m => ?_) (Heap.get?_push_of_some _ (Heap.get?_push_of_some _ e))
          rcases List.mem_cons.mp m with q | q
          · exact absurd q (Nat.ne_of_lt hb0)
          · have e9 : b = (s.heap.push (sO w)).objs.size := by simpa using q
            rw [z1] at e9
            exact absurd e9 (Nat.ne_of_lt (Nat.lt_succ_of_lt hb0))
      · cases r2 with
        | error e => exact hr2
        | ok fl2 =>
          cases fl2 with
          | ret r =>
            obtain ⟨rfl, h', tk, c, rfl, hS⟩ := hr2
            repeat (any_goals (first | assumption | wp_step))
            exact k _ _ _ hS
          | _ => exact hr2.elim
    | _ => exact hr.elim
end
/-- sorted(set(xs)), xs ints, some twice -/
def tSortSet (K : PySem.W.Frag) (ta : TE) : TE := fun σ H Q => ta σ H fun x H1 => ∃ (l : Addr) (ns : List Int), x = .ref l ∧ SqL K H1 l (ns.map V.int) ∧ ns.length < 60 ∧
  ∀ (ms : List Int) (p : Addr), ms.Pairwise (· < ·) → (∀ k : Int, k ∈ ms ↔ k ∈ ns) → H1 p = none → Q (.ref p) (upd H1 p (.lst (ms.map V.int)))
theorem pe_sortSet {X : Cx} (K : PySem.W.Frag) (hK : X.K = K) {a : Expr} {ta : TE} {p p2 q pos : Pos} (hg : Gl X "sorted") (hm : X.mg "sorted" = none) (hg2 : Gl X "set") (hm2 : X.mg "set" = none) (ha : PE X a ta) (hc : X.calm = true := by rfl)
    (na : starEach [a] X.env = (false, eval a X.env) :: starEach [] X.env := by rfl) : PE X (.Call (.Name "sorted" p) [.Call (.Name "set" p2) [a] [] q] [] pos) (tSortSet K ta) := by
  subst hK
  refine ⟨fun pins s σ H Q I h => ?_⟩
  refine Call_ (ld_blt I hg hm (show bootBuiltins (Str.ofString "sorted") = some (.builtin "sorted") by decide +kernel) ?_)
  refine PyProof.Rows.callWith_builtin1 (PyProof.Rows.args_cons ?_ rfl) rfl rfl
  refine Call_ (ld_blt I hg2 hm2 boot_set ?_)
  refine PyProof.Rows.callWith_type1 (PyProof.Rows.args_cons (thn (ha.run pins s σ H _ I h) fun v s1 ⟨x, H1, I1, r1, q1⟩ => PyProof.Rows.args_nil ?_) na) na rfl
  obtain ⟨l, ns, rfl, hq, hl, q1⟩ := q1
  cases r1
  obtain ⟨its, r, pl, hz⟩ := I1.list hq
  refine set_of_list ns (I1.ok.hd hc) pl.isList (by simpa using intsAre_vals r) (by unfold scanBound; omega) fun h' tk c ⟨hS, hcn, hk⟩ => ?_
  refine PyProof.Rows.args_nil ?_
  have I2 : Inv X pins σ H1 { s1 with heap := h', toks := tk } := I1.kept fun b o e => hk b o e
  refine sorted_set hS (I2.ok.hd hc) (by omega) fun s' p out cc ms kk g o hp hgg hi hs hmm hll => ?_
  have hlen : (ms.map V.int).length ≤ sizeLine := by rw [List.length_map, hll, sizeLine_eq]; omega
  have hn : H1 p = none := I2.hok.fresh hp
  generalize es2 : ({ s1 with heap := h', toks := tk } : Shared) = s2 at I2 kk g o hn hp
  have J : Inv X pins σ (upd H1 p (.lst (ms.map V.int))) { s2 with heap := s'.heap, gens := s'.gens, drawn := s'.drawn, toks := s'.toks } :=
    I2.call (ch := []) (Un.laid kk hp hn) (I2.hok.laid kk hp ⟨hlen, out.toList, cc, vals_of_ints hi, hgg⟩) (by rw [g]; exact I2.bare) (fun _ z => nomatch z)
  have e : s' = { s2 with heap := s'.heap, gens := s'.gens, drawn := s'.drawn, toks := s'.toks } := by
    cases s'; cases s2; cases o; rfl
  rw [e]
  exact ⟨.ref p, _, J, rfl, q1 ms p hs (fun j => by rw [hmm j]; exact decide_eq_true_iff) hn⟩
theorem pe_revLK {X : Cx} (K : PySem.W.Frag) (hK : X.K = K) {e : Expr} {te : TE} {k : Nat} {p1 p2 p3 pos : Pos} (he : PE X e te) : PE X (.Subscript e (.Slice none none (some (.UnaryOp .USub (.Constant (.int 1) k p1) p2)) p3) pos) (tRevL K te) := by
  subst hK; exact pe_revL he
end Sk
end
section
/-! SwT_k11: what is told by a work that may be refused, as k11 words it. -/
namespace Sk
open PySem PySem.Spec PyProof.Rows L2 SW
def wE : Er → Str
  | .slot => "slot"
  | .room => "room"
  | .call => "call"
  | _ => "other"
def TTold11 (K : PySem.W.Frag) : (XK → Hp → VK → Prop) → Hp → VK → Prop := fun tl H Q =>
  tl (fun cls d H' => ∃ er : Er, ern er ∈ exN ∧ cls = eC K (ern er) ∧ d = none ∧ ∀ H'', Same H' H'' → Q (.str (wE er)) H'') H Q
section
variable {K : PySem.W.Frag} {mg : Str → Option Value}
theorem tell_exm (T : Txt K mg) {er : Er} (h : ern er ∈ exN) : PySem.W.exmOne K (eC K (ern er)) (eC K "WoodError") = some true := by
  cases er with
  | hand => exact T.xm_NoHand
  | place => exact absurd h (by decide +kernel)
  | call => exact T.xm_NoCall
  | slot => exact T.xm_NoSlot
  | room => exact T.xm_NoRoom
def ts_told11 (K : PySem.W.Frag) : Addr → Value → Option Addr → TS := fun a cls d D σ H => ∃ (er : Er) (σ' : L2.St), ern er ∈ exN ∧ cls = eC K (ern er) ∧ d = none ∧ σ = σ'.set 1 (some (.ref a)) ∧ ∀ H', Same H H' → D.rt (.str (wE er)) H'
def N11 : List Str := ["_law_work", "_law_e", "_law_kinds"]
theorem told_gives (T : Txt K mg) {X : Cx} (hK : X.K = K) (hm : X.mg = mg) {q : Str} {g : Addr} {cdg : Value} :
    LamX.GivesTo X ["_law_work", "_law_e", "_law_kinds"] "_law_told" (defScope s_l_told) g cdg (defBody s_l_told) "_law_work" q (TTold11 K) := by
  subst hK hm
  intro f c' s H Q tl act hc h
  let Z := (cxOf C8.CX0 X.prog X.w X.K X.mg X.base ["_law_work", "_law_e", "_law_kinds"] "_law_told" (defScope s_l_told) g cdg X.A X.stack s H C8.E0).nox
  refine ⟨_, pss_one (ps_try_as (X := Z) (i := 1) (c := eC X.K "WoodError")
      (tb := fun W D σ H => ∃ Ech : XK, (∀ cls d σ' H', Ech cls d H' → W cls d σ' H') ∧ σ[0]? = some (some (.ref f)) ∧ H c' = some (LamX.CodeO c' q) ∧ tl Ech H D.rt) (ts := ts_told11 X.K) (Wout := fun _ _ _ _ => False)
      rfl rfl sc_l_told.nd rfl rfl ⟨rfl, by decide, .inl T.g_WoodError⟩ LamX.takes0 (fun W pn xe tk _ => ?_) (fun a oe cls d pn hz hf => ?_)), ?_⟩
  · refine ⟨fun pins s' σ H' D I h' => ?_⟩
    obtain ⟨Ech, hW, h1, h2, h3⟩ := h'
    exact PSs.run (pss_one (ps_ret (act W pn xe Ech _ _ tk hW))) pins s' σ H' D I ⟨h1, h2, h3⟩
  · refine pss_by fun pins s' σ H' D I h' => ?_
    obtain ⟨er, σ', hx, rfl, rfl, rfl, kk⟩ := h'
    have hl : (σ'.set 1 (some (V.ref a))).length = 3 := I.len
    have he : (σ'.set 1 (some (V.ref a)))[1]? = some (some (V.ref a)) := by
      rw [List.length_set] at hl
      rw [List.getElem?_set_self (by omega)]
    generalize hσ : σ'.set 1 (some (V.ref a)) = σ at he hl I
    obtain ⟨x0, x1, x2, rfl⟩ : ∃ x0 x1 x2, σ = [x0, x1, x2] := by
      match σ, hl with
      | [x0, x1, x2], _ => exact ⟨x0, x1, x2, rfl⟩
    have hx1 : x1 = some (V.ref a) := by simpa using he
    subst hx1
    have C := T.exC _ hx
    refine ⟨_, (pss_cons (ps_set (i := 2) sc_l_told.nd rfl (Or.inl rfl) (pe_lst (pa_cons (pe_callB (call_isEK C hz hf) rfl T.n_isinstance (by decide +kernel) (pa_cons (pv 1) (pa_cons (pe_glob (v := .ref _) rfl T.g_NoSlot rfl) pa_nil))) (pa_cons (pe_callB (call_isEK C hz hf) rfl T.n_isinstance (by decide +kernel) (pa_cons (pv 1) (pa_cons (pe_glob (v := .ref _) rfl T.g_NoRoom rfl) pa_nil))) (pa_cons (pe_callB (call_isEK C hz hf) rfl T.n_isinstance (by decide +kernel) (pa_cons (pv 1) (pa_cons (pe_glob (v := .ref _) rfl T.g_NoCall rfl) pa_nil))) pa_nil))))) (pss_one (ps_ret (pe_ifExp (pt_cmpR op_eq (pe_bm PySem.F.plainAttrs_list PySem.F.slot_list_count PySem.F.type_list_count (mt_countB (K := X.K) rfl) (pv 2) (pa_cons pe_bl pa_nil)) pe_int (nomark _)) (pe_ix (ix_listK X.K rfl) (pe_lst (pa_cons pe_str (pa_cons pe_str (pa_cons pe_str pa_nil)))) (pe_bm PySem.F.plainAttrs_list PySem.F.slot_list_index PySem.F.type_list_index mt_index (pv 2) (pa_cons pe_bl pa_nil)) (fun _ _ => rfl)) pe_str)))), ?_⟩
    have m3 : ("NoCall" : Str) ∈ exN := by decide +kernel
    have m4 : ("NoSlot" : Str) ∈ exN := by decide +kernel
    have m5 : ("NoRoom" : Str) ∈ exN := by decide +kernel
    refine ⟨_, rfl, _, _, _, rfl, fun u h => h, T.exX _ hx _ m4, _, rfl, _, _, _, rfl, fun u h => h, T.exX _ hx _ m5, _, rfl, _, _, _, rfl, fun u h => h, T.exX _ hx _ m3, by show 3 ≤ sizeLine; exact sz (by omega), fun l1 n1 => ?_⟩
    have S1 := same_new n1 (.lst [V.bl (decide (ern er = "NoSlot")), V.bl (decide (ern er = "NoRoom")), V.bl (decide (ern er = "NoCall"))])
    have h1 : upd H' l1 (.lst [V.bl (decide (ern er = "NoSlot")), V.bl (decide (ern er = "NoRoom")), V.bl (decide (ern er = "NoCall"))]) l1 = some _ := upd_same
    generalize upd H' l1 (.lst [V.bl (decide (ern er = "NoSlot")), V.bl (decide (ern er = "NoRoom")), V.bl (decide (ern er = "NoCall"))]) = H1 at S1 h1
    refine ⟨_, rfl, .inl ⟨rfl, _, SqL.of h1⟩, l1, [decide (ern er = "NoSlot"), decide (ern er = "NoRoom"), decide (ern er = "NoCall")], true, rfl, rfl, SqL.of h1, rfl, _, rfl, ?_⟩
    cases er with
    | hand => exact ifF (by decide +kernel) (kk _ S1)
    | place => exact ifF (by decide +kernel) (kk _ S1)
    | slot =>
      refine ifT (by decide +kernel) ⟨by show 3 ≤ sizeLine; exact sz (by omega), fun l2 n2 => ?_⟩
      have e2 := same_new n2 (.lst [V.str "slot", V.str "room", V.str "call"])
      refine ⟨_, rfl, .inl ⟨rfl, _, SqL.of (e2 _ _ h1)⟩, l1, _, V.bl true, 0, V.bl true, rfl, rfl, SqL.of (e2 _ _ h1), rfl, rfl, by decide +kernel, rfl, ahead (by decide +kernel), ?_⟩
      exact ⟨l2, _, _, V.str "slot", rfl, rfl, SqL.of upd_same, atI_nat rfl, kk _ (S1.trans e2)⟩
    | room =>
      refine ifT (by decide +kernel) ⟨by show 3 ≤ sizeLine; exact sz (by omega), fun l2 n2 => ?_⟩
      have e2 := same_new n2 (.lst [V.str "slot", V.str "room", V.str "call"])
      refine ⟨_, rfl, .inl ⟨rfl, _, SqL.of (e2 _ _ h1)⟩, l1, _, V.bl true, 1, V.bl true, rfl, rfl, SqL.of (e2 _ _ h1), rfl, rfl, by decide +kernel, rfl, ahead (by decide +kernel), ?_⟩
      exact ⟨l2, _, _, V.str "room", rfl, rfl, SqL.of upd_same, atI_nat rfl, kk _ (S1.trans e2)⟩
    | call =>
      refine ifT (by decide +kernel) ⟨by show 3 ≤ sizeLine; exact sz (by omega), fun l2 n2 => ?_⟩
      have e2 := same_new n2 (.lst [V.str "slot", V.str "room", V.str "call"])
      refine ⟨_, rfl, .inl ⟨rfl, _, SqL.of (e2 _ _ h1)⟩, l1, _, V.bl true, 2, V.bl true, rfl, rfl, SqL.of (e2 _ _ h1), rfl, rfl, by decide +kernel, rfl, ahead (by decide +kernel), ?_⟩
      exact ⟨l2, _, _, V.str "call", rfl, rfl, SqL.of upd_same, atI_nat rfl, kk _ (S1.trans e2)⟩
  · exact ⟨_, fun cls d σ' H' ⟨er, h1, h2, h3, h4⟩ => ⟨true, by rw [h2]; exact tell_exm T h1, fun _ a _ => ⟨er, σ', h1, h2, h3, rfl, h4⟩, fun hb => by cases hb⟩, rfl, hc, h⟩
end
end Sk
end
section
/-! SwL5: the law k11. -/
namespace Sk
open PySem PySem.Spec PyProof.Rows L2 SW
theorem dice_ne {oo : List Int} {a : Addr} {i m r : Int} : HO.lst (oo.map V.int) ≠ HO.lst (diceL a i m r) := fun z => by
  have z := HO.lst.inj z
  cases oo with
  | nil => cases z
  | cons b l => rw [List.map_cons] at z; cases (List.cons.inj z).1
/-- how many calls the hands have, i of them done, k by the next -/
def nn (os : List Int) (i k : Nat) : Nat → Nat := fun j => if j < i then (os.getD j 0).toNat else if j = i then k else 0
theorem nn_step (os : List Int) (i k : Nat) : (fun j => if j = i then nn os i k i + 1 else nn os i k j) = nn os i (k + 1) := by
  funext j
  unfold nn
  by_cases h : j = i
  · subst h; simp
  · rw [if_neg h, if_neg h, if_neg h]
theorem nn_next (os : List Int) (i : Nat) : nn os i (os.getD i 0).toNat = nn os (i + 1) 0 := by
  funext j
  unfold nn
  by_cases h : j < i
  · rw [if_pos h, if_pos (by omega)]
  · rw [if_neg h]
    by_cases h2 : j = i
    · subst h2; rw [if_pos rfl, if_pos (by omega)]
    · rw [if_neg h2, if_neg (by omega)]; split <;> rfl
theorem nn_zero (os : List Int) : nn os 0 0 = fun _ => 0 := by
  funext j
  unfold nn
  rw [if_neg (by omega)]; split <;> rfl
theorem nn_all (os : List Int) {j : Nat} (h : j < 6) : nn os 6 0 j = (os.getD j 0).toNat := by unfold nn; rw [if_pos h]
theorem own_new : Own (fun _ => 0) (newW 6 40) := by
  have tp : ∀ h : Nat, top (newW 6 40) (h : Int) = none := fun h => by
    unfold top
    show (List.replicate 6 (none : Option Int)).getD ((h : Int).toNat) none = none
    rw [List.getD_eq_getElem?_getD, List.getElem?_replicate]
    split <;> rfl
  refine ⟨newW_wf (by omega) (by omega) (by omega) (by omega), rfl, rfl, rfl, fun h hh => ?_, fun h k _ _ _ r hr => ?_⟩
  · rw [tp h, Path.eq .nil]; rfl
  · rw [tp h, Path.eq .nil] at hr; cases hr
abbrev Z0 : Hp := fun _ => none
/-- four lists of hands -/
def LsAt (H : Hp) (ls : List (Addr × List Int)) : Prop := ∀ q ∈ ls, H q.1 = some (.lst (q.2.map V.int)) ∧ q.2.length ≤ 6 ∧ ∀ h ∈ q.2, 0 ≤ h ∧ h < 6
theorem LsAt.same {H H' : Hp} {ls : List (Addr × List Int)} (L : LsAt H ls) (s : Same H H') : LsAt H' ls := fun q hq => ⟨s _ _ (L q hq).1, (L q hq).2⟩
theorem held_own {os : List Int} {W : Wd} (O : Own (nn os 6 0) W) (ho : ∀ o ∈ os, 0 ≤ o) {hs ms : List Int} (h6 : ∀ h ∈ hs, 0 ≤ h ∧ h < 6) (hm : ms.Pairwise (· < ·)) (he : ∀ k : Int, k ∈ ms ↔ k ∈ hs) : ((heldL W.frames (hs.map (top W))).length : Int) = (ms.map fun h => os.getD h.toNat 0).sum := by
  have m6 : ∀ h ∈ ms, 0 ≤ h ∧ h < 6 := fun h hh => h6 h ((he h).mp hh)
  have nD : (ms.map Int.toNat).Nodup := by
    refine List.Pairwise.map Int.toNat (R := fun a b => a ≠ b ∧ 0 ≤ a ∧ 0 ≤ b) (fun a b ⟨n, x, y⟩ z => n (by omega)) ?_
    have key : ∀ ms : List Int, ms.Pairwise (· < ·) → (∀ h ∈ ms, 0 ≤ h ∧ h < 6) → ms.Pairwise (fun a b => a ≠ b ∧ 0 ≤ a ∧ 0 ≤ b) := by
      intro ms
      induction ms with
      | nil => intro _ _; exact .nil
      | cons a l ih =>
        intro p q
        obtain ⟨p1, p2⟩ := List.pairwise_cons.mp p
        refine List.pairwise_cons.mpr ⟨fun b hb => ⟨?_, (q a List.mem_cons_self).1, (q b (List.mem_cons_of_mem _ hb)).1⟩, ih p2 fun h hh => q h (List.mem_cons_of_mem _ hh)⟩
        have := p1 b hb
        omega
    exact key ms hm m6
  have := O.uni (L := heldL W.frames (hs.map (top W))) (heldL_nd _ _) nD (fun h hh => by
    obtain ⟨x, hx, rfl⟩ := List.mem_map.mp hh
    have := m6 x hx
    omega) (fun r => by
    rw [heldL_mem]
    constructor
    · rintro ⟨t, ht, hr⟩
      obtain ⟨x, hx, rfl⟩ := List.mem_map.mp ht
      have b := h6 x hx
      exact ⟨x.toNat, List.mem_map.mpr ⟨x, (he x).mpr hx, rfl⟩, by rw [show ((x.toNat : Nat) : Int) = x by omega]; exact hr⟩
    · rintro ⟨j, hj, hr⟩
      obtain ⟨x, hx, rfl⟩ := List.mem_map.mp hj
      have b := m6 x hx
      rw [show ((x.toNat : Nat) : Int) = x by omega] at hr
      exact ⟨top W x, List.mem_map.mpr ⟨x, (he x).mp hx, rfl⟩, hr⟩)
  rw [this, List.map_map]
  clear this nD he hm
  induction ms with
  | nil => rfl
  | cons a l ih =>
    have a6 := m6 a List.mem_cons_self
    have e1 : nn os 6 0 a.toNat = (os.getD a.toNat 0).toNat := nn_all os (by omega)
    have e2 : 0 ≤ os.getD a.toNat 0 := by
      rw [List.getD_eq_getElem?_getD]
      cases q : os[a.toNat]? with
      | none => exact Int.le_refl _
      | some o => exact ho o (List.mem_of_getElem? q)
    have e3 := ih fun h hh => m6 h (List.mem_cons_of_mem _ hh)
    simp only [List.map_cons, List.sum_cons, Function.comp_apply] at e3 ⊢
    omega
/-- six numbers -/
theorem six {os : List Int} (h : os.length = 6) : ∃ a b c d e f, os = [a, b, c, d, e, f] := by
  match os, h with
  | [a, b, c, d, e, f], _ => exact ⟨a, b, c, d, e, f, rfl⟩
theorem used_own {os : List Int} {W : Wd} (ho : ∀ o ∈ os, 0 ≤ o) (l6 : os.length = 6) {a b : Nat} (ha : a < 6) (hb : b < 6) (Br : Brd (nn os 6 0) a b W) : (W.frames.length : Int) = os.sum - (if a ≠ b then os.getD b 0 else 0) := by
  have key := Br.fl ((List.range 6).filter fun h => decide (h ≠ b ∨ h = a)) (List.nodup_range.filter _) (fun h => by rw [List.mem_filter, List.mem_range, decide_eq_true_iff])
  obtain ⟨o0, o1, o2, o3, o4, o5, rfl⟩ := six l6
  have h0 := ho o0 (by simp)
  have h1 := ho o1 (by simp)
  have h2 := ho o2 (by simp)
  have h3 := ho o3 (by simp)
  have h4 := ho o4 (by simp)
  have h5 := ho o5 (by simp)
  rw [key]
  clear key Br ho l6
  have ra : a = 0 ∨ a = 1 ∨ a = 2 ∨ a = 3 ∨ a = 4 ∨ a = 5 := by omega
  have rb : b = 0 ∨ b = 1 ∨ b = 2 ∨ b = 3 ∨ b = 4 ∨ b = 5 := by omega
  have e6 : List.range 6 = [0, 1, 2, 3, 4, 5] := rfl
  rw [e6]
  rcases ra with rfl | rfl | rfl | rfl | rfl | rfl <;> rcases rb with rfl | rfl | rfl | rfl | rfl | rfl <;>
    · simp [nn, List.filter_cons]
      omega
section
variable {P : Program} {w : World} {K : PySem.W.Frag} {mg : Str → Option Value} {base : Heap}
theorem ok_law (T : Txt K mg) {P0 : Addr} (TB0 : LamX.TabB base mg (He.codeOf K ("law", none)) P0) : FnOk P w K mg base CX0 9 (aG K "law") (fdOf K (aG K "law")) ["_law_script"] (spLaw K P0) := by
  obtain ⟨oc, od, dV, kV, doc, pm, an, cdv, ct, osl, e, lk, hcd, _, _⟩ := T.F_law.ex
  obtain ⟨oc2, od2, dV2, kV2, doc2, pm2, an2, cdv2, ct2, osl2, e2, lk2, hcT, _, _⟩ := T.F_l_told.ex
  obtain ⟨c, rfl⟩ := He.codeIn_ref hcd
  have bT := T.b_l_told
  rw [e2] at bT
  have lkT := lk2
  rw [e2] at lkT
  have ec : He.codeOf K ("law", none) = c := He.codeOf_eq lk (by rw [e])
  rw [ec] at TB0
  have TB := TB0
  rw [e] at lk ⊢
  have hmT : (P0, qLam) ∈ [(P0, qLam)] := List.mem_singleton.mpr rfl
  have huT : ∀ p ∈ [(P0, qLam)], p.1 = P0 → p.2 = qLam := fun p hp _ => by rw [List.mem_singleton.mp hp]
  refine fn_of lk hcd sc_law (fun vs H Q E h => ?_) (fun A outer s H vs Q E hr h => ?_)
  · obtain ⟨_, _, rfl, _⟩ := h; rfl
  · obtain ⟨a, ns, rfl, hs, hl, htb, k⟩ := h
    refine ⟨_, PSs.nox (pss_cons (ps_set (i := 1) sc_law.nd rfl (Or.inr rfl) (pe_call (ok_l_dice T) (hr.mono (by decide)) rfl T.g__law_dice T.F_l_dice.kp T.b_l_dice .nil pass0 (pa_cons (pv 0) pa_nil))) (pss_cons (ps_set (i := 11) sc_law.nd rfl (Or.inr rfl) (pe_op op_add pe_int (pe_call (ok_l_next T) (hr.mono (by decide)) rfl T.g__law_next T.F_l_next.kp T.b_l_next .nil pass0 (pa_cons (pv 1) (pa_cons pe_int pa_nil))))) (pss_cons (ps_set (i := 12) sc_law.nd rfl (Or.inr rfl) (pe_make T.mk_Wood (ok_Wood_init T) (hr.mono (by decide)) rfl T.g_Wood T.b_Wood_init .nil passL (pa_cons pe_int (pa_cons (pv 11) pa_nil)))) (pss_cons (ps_for PassesOwn.never rfl (pi_range1 rfl T.n_range (pa_cons (pv 11) pa_nil)) (pg_name (i := 2) sc_law.nd rfl (Or.inl rfl)) (pss_one (ps_expr (pe_meth (pv 12) T.cl_Wood T.m_call (ok_Wood_call T) (hr.mono (by decide)) T.b_Wood_call .nil passL (pa_cons pe_int (pa_cons (pe_lst (pa_cons (pv 2) (pa_cons pe_int pa_nil))) pa_nil)))))) (pss_cons (ps_if (PW.pt (pw_or (pt_cmpR (op_neDK K rfl hr.units) (LamX.pe_lamcall (k := 6) rfl T.g__law_told T.F_l_told.kp lkT hcT bT sc_l_told rfl (.inl rfl) (told_gives T rfl rfl) TB rfl hmT huT (hr.mono (by decide)) (LamX.lamS_by (sc := defScope s_law) (by decide +kernel)) rfl (fun _ _ _ _ _ => rfl) (fun _ _ _ _ _ _ _ hr => by exact (pe_meth (pv 12) T.cl_Wood T.m_call (ok_Wood_call T) (hr.mono (by decide)) T.b_Wood_call .nil (passes_call (takes_of rfl rfl rfl rfl) (fun _ _ _ _ h => h)) (pa_cons pe_int (pa_cons (pe_lst (pa_cons pe_int (pa_cons pe_int (pa_cons pe_int (pa_cons pe_int pa_nil))))) pa_nil))))) pe_str (nomark _)) (pw_or1 (pt_cmpR (op_neDK K rfl hr.units) (LamD.pe_lamcallD (k := 6) (y := "_law_a") rfl T.g__law_told T.F_l_told.kp lkT hcT bT sc_l_told rfl (.inl rfl) (told_gives T rfl rfl) TB rfl hmT huT (hr.mono (by decide)) (LamD.lamS1_by (sc := defScope s_law) (by decide +kernel)) (show (Str.ofString "_law_a") ∉ (["_law_script", "_law_d", "_law_k", "_law_found", "_law_many", "_law_own", "_law_hand", "_law_some", "_law_hands", "_law_one", "_law_other", "_law_rooms", "_law_wood"] : List Str) by decide +kernel) rfl rfl (fun _ _ _ _ _ _ _ _ _ h => BindsTo.of_defaults rfl h rfl rfl rfl) (fun _ _ _ _ _ _ _ hr => by exact (pe_meth (pv 12) T.cl_Wood T.m_call (ok_Wood_call T) (hr.mono (by decide)) T.b_Wood_call .nil (passes_call (takes_of rfl rfl rfl rfl) (fun _ _ _ _ h => h)) (pa_cons pe_int (pa_cons (pe_lst (pa_cons pe_int pa_nil)) pa_nil))))) pe_str (nomark _))))) (pss_one (ps_ret pe_bl)) pss_nil) (pss_cons (ps_expr (pe_meth (pv 12) T.cl_Wood T.m_branch (ok_Wood_branch T) (hr.mono (by decide)) T.b_Wood_branch .nil passL (pa_cons pe_int (pa_cons pe_int pa_nil)))) (pss_cons (ps_set (i := 3) sc_law.nd rfl (Or.inl rfl) (pe_lst (pa_cons (LamD.pe_lamcallD (k := 6) (y := "_law_b") rfl T.g__law_told T.F_l_told.kp lkT hcT bT sc_l_told rfl (.inl rfl) (told_gives T rfl rfl) TB rfl hmT huT (hr.mono (by decide)) (LamD.lamS1_by (sc := defScope s_law) (by decide +kernel)) (show (Str.ofString "_law_b") ∉ (["_law_script", "_law_d", "_law_k", "_law_found", "_law_many", "_law_own", "_law_hand", "_law_some", "_law_hands", "_law_one", "_law_other", "_law_rooms", "_law_wood"] : List Str) by decide +kernel) rfl rfl (fun _ _ _ _ _ _ _ _ _ h => BindsTo.of_defaults rfl h rfl rfl rfl) (fun _ _ _ _ _ _ _ hr => by exact (pe_meth (pv 12) T.cl_Wood T.m_put (ok_Wood_put T) (hr.mono (by decide)) T.b_Wood_put .nil (passes_call (takes_of rfl rfl rfl rfl) (fun _ _ _ _ h => h)) (pa_cons pe_int (pa_cons pe_int (pa_cons pe_int (pa_cons pe_int pa_nil))))))) (pa_cons (LamD.pe_lamcallD (k := 6) (y := "_law_c") rfl T.g__law_told T.F_l_told.kp lkT hcT bT sc_l_told rfl (.inl rfl) (told_gives T rfl rfl) TB rfl hmT huT (hr.mono (by decide)) (LamD.lamS1_by (sc := defScope s_law) (by decide +kernel)) (show (Str.ofString "_law_c") ∉ (["_law_script", "_law_d", "_law_k", "_law_found", "_law_many", "_law_own", "_law_hand", "_law_some", "_law_hands", "_law_one", "_law_other", "_law_rooms", "_law_wood"] : List Str) by decide +kernel) rfl rfl (fun _ _ _ _ _ _ _ _ _ h => BindsTo.of_defaults rfl h rfl rfl rfl) (fun _ _ _ _ _ _ _ hr => by exact (pe_meth (pv 12) T.cl_Wood T.m_put (ok_Wood_put T) (hr.mono (by decide)) T.b_Wood_put .nil (passes_call (takes_of rfl rfl rfl rfl) (fun _ _ _ _ h => h)) (pa_cons pe_int (pa_cons pe_int (pa_cons pe_int (pa_cons pe_int pa_nil))))))) pa_nil)))) (pss_cons (ps_if (pt_cmpR (op_neDK K rfl hr.units) (pe_op op_cat (pv 3) (pe_lst (pa_cons (LamD.pe_lamcallD (k := 6) (y := "_law_e") rfl T.g__law_told T.F_l_told.kp lkT hcT bT sc_l_told rfl (.inl rfl) (told_gives T rfl rfl) TB rfl hmT huT (hr.mono (by decide)) (LamD.lamS1_by (sc := defScope s_law) (by decide +kernel)) (show (Str.ofString "_law_e") ∉ (["_law_script", "_law_d", "_law_k", "_law_found", "_law_many", "_law_own", "_law_hand", "_law_some", "_law_hands", "_law_one", "_law_other", "_law_rooms", "_law_wood"] : List Str) by decide +kernel) rfl rfl (fun _ _ _ _ _ _ _ _ _ h => BindsTo.of_defaults rfl h rfl rfl rfl) (fun _ _ _ _ _ _ _ hr => by exact (pe_meth (pv 12) T.cl_Wood T.m_put (ok_Wood_put T) (hr.mono (by decide)) T.b_Wood_put .nil (passes_call (takes_of rfl rfl rfl rfl) (fun _ _ _ _ h => h)) (pa_cons pe_int (pa_cons (pv 11) (pa_cons pe_int (pa_cons pe_int pa_nil))))))) pa_nil))) (pe_lst (pa_cons pe_str (pa_cons pe_str (pa_cons pe_str pa_nil)))) (nomark _)) (pss_one (ps_ret pe_bl)) pss_nil) (pss_cons (ps_asg (pe_tup (pa_cons (pe_op op_add pe_int (pe_call (ok_l_next T) (hr.mono (by decide)) rfl T.g__law_next T.F_l_next.kp T.b_l_next .nil pass0 (pa_cons (pv 1) (pa_cons pe_int pa_nil)))) (pa_cons (pe_lc (own := [("_law_k", 2)]) (g := gName 2) rfl sc_law.nd (pi_range1 rfl T.n_range (pa_cons pe_int pa_nil)) (blkOk_by (own := [("_law_k", 2)]) (N := ["_law_script", "_law_d", "_law_k", "_law_found", "_law_many", "_law_own", "_law_hand", "_law_some", "_law_hands", "_law_one", "_law_other", "_law_rooms", "_law_wood"]) (sc := (defScope s_law)) (by decide +kernel)) (fun _ _ _ _ _ => pg_name (i := 2) sc_law.nd rfl (Or.inl rfl)) (fun _ _ _ _ _ => by exact pts_nil) (fun _ _ _ _ _ => by exact (pe_op op_add pe_int (pe_call (ok_l_next T) (hr.mono (by decide)) rfl T.g__law_next T.F_l_next.kp T.b_l_next .nil pass0 (pa_cons (pv 1) (pa_cons pe_int pa_nil)))))) pa_nil))) (pg_tup rfl (pgs_cons (pg_name (i := 4) sc_law.nd rfl (Or.inl rfl)) (pgs_cons (pg_name (i := 5) sc_law.nd rfl (Or.inr rfl)) pgs_nil)))) (pss_cons (ps_set (i := 12) sc_law.nd rfl (Or.inr rfl) (pe_make T.mk_Wood (ok_Wood_init T) (hr.mono (by decide)) rfl T.g_Wood T.b_Wood_init .nil passL (pa_cons pe_int (pa_cons pe_int pa_nil)))) (pss_cons (ps_for PassesOwn.never rfl (pi_range1 rfl T.n_range (pa_cons pe_int pa_nil)) (pg_name (i := 6) sc_law.nd rfl (Or.inl rfl)) (pss_one (ps_for PassesOwn.never rfl (pi_range1 rfl T.n_range (pa_cons (pe_ix (ix_listK K rfl) (pv 5) (pv 6) (fun _ _ => rfl)) pa_nil)) (pg_name (i := 2) sc_law.nd rfl (Or.inl rfl)) (pss_one (ps_expr (pe_meth (pv 12) T.cl_Wood T.m_call (ok_Wood_call T) (hr.mono (by decide)) T.b_Wood_call .nil passL (pa_cons (pv 6) (pa_cons (pe_lst (pa_cons (pv 2) pa_nil)) pa_nil)))))))) (pss_cons (ps_setLc (i := 7) (own := [("_law_k", 2)]) (g := gName 2) rfl sc_law.nd rfl rfl (sw_true rfl rfl rfl (by decide +kernel)) (pi_range1 rfl T.n_range (pa_cons (pv 4) pa_nil)) (blkOk_by (own := [("_law_k", 2)]) (N := ["_law_script", "_law_d", "_law_k", "_law_found", "_law_many", "_law_own", "_law_hand", "_law_some", "_law_hands", "_law_one", "_law_other", "_law_rooms", "_law_wood"]) (sc := (defScope s_law)) (by decide +kernel)) (fun _ _ _ _ _ => pg_name (i := 2) sc_law.nd rfl (Or.inl rfl)) (fun _ _ _ _ _ => by exact pts_nil) (fun _ _ _ _ _ => by exact (pe_call (ok_l_next T) (hr.mono (by decide)) rfl T.g__law_next T.F_l_next.kp T.b_l_next .nil pass0 (pa_cons (pv 1) (pa_cons pe_int pa_nil))))) (pss_cons (ps_for PassesOwn.never rfl (pi_listK K rfl (pe_lst (pa_cons (pv 7) (pa_cons (pe_listRg rfl rfl T.n_list (prg_1 rfl T.n_range pe_int)) (pa_cons (pe_revLK K rfl (pe_listRg rfl rfl T.n_list (prg_1 rfl T.n_range pe_int))) (pa_cons (pe_lst pa_nil) pa_nil)))))) (pg_name (i := 8) sc_law.nd rfl (Or.inl rfl)) (pss_one (ps_if (pt_cmpR op_ne (pe_call (ok_held T) (hr.mono (by decide)) rfl T.g_held T.F_held.kp T.b_held .nil passL (pa_cons (pv 12) (pa_cons (pv 8) pa_nil))) (pe_callB (cr_sum rfl) rfl T.n_sum (by decide +kernel) (pa_cons (pe_lc (own := [("_law_hand", 6)]) (g := gName 6) rfl sc_law.nd (pi_listK K rfl (pe_sortSet K rfl rfl T.n_sorted rfl T.n_set (pv 8))) (blkOk_by (own := [("_law_hand", 6)]) (N := ["_law_script", "_law_d", "_law_k", "_law_found", "_law_many", "_law_own", "_law_hand", "_law_some", "_law_hands", "_law_one", "_law_other", "_law_rooms", "_law_wood"]) (sc := (defScope s_law)) (by decide +kernel)) (fun _ _ _ _ _ => pg_name (i := 6) sc_law.nd rfl (Or.inl rfl)) (fun _ _ _ _ _ => by exact pts_nil) (fun _ _ _ _ _ => by exact (pe_ix (ix_listK K rfl) (pv 5) (pv 6) (fun _ _ => rfl)))) pa_nil)) (nomark _)) (pss_one (ps_ret pe_bl)) pss_nil))) (pss_cons (ps_par (i := 9) (j := 10) rfl sc_law.nd rfl rfl (by decide) rfl rfl (pa_cons (pe_call (ok_l_next T) (hr.mono (by decide)) rfl T.g__law_next T.F_l_next.kp T.b_l_next .nil pass0 (pa_cons (pv 1) (pa_cons pe_int pa_nil))) (pa_cons (pe_call (ok_l_next T) (hr.mono (by decide)) rfl T.g__law_next T.F_l_next.kp T.b_l_next .nil pass0 (pa_cons (pv 1) (pa_cons pe_int pa_nil))) pa_nil)) (by rfl)) (pss_cons (ps_expr (pe_meth (pv 12) T.cl_Wood T.m_branch (ok_Wood_branch T) (hr.mono (by decide)) T.b_Wood_branch .nil passL (pa_cons (pv 9) (pa_cons (pv 10) pa_nil)))) (pss_cons (ps_if (PW.pt (pw_or (pt_cmpR op_ne (pe_call (ok_common T) (hr.mono (by decide)) rfl T.g_common T.F_common.kp T.b_common .nil passL (pa_cons (pv 12) (pa_cons (pv 9) (pa_cons (pv 10) pa_nil)))) (pe_ix (ix_listK K rfl) (pv 5) (pv 9) (fun _ _ => rfl)) (nomark _)) (pw_or1 (pt_cmpR op_ne (pe_call (ok_used T) (hr.mono (by decide)) rfl T.g_used T.F_used.kp T.b_used .nil pass0 (pa_cons (pv 12) pa_nil)) (pe_op op_sub (pe_callB (cr_sum rfl) rfl T.n_sum (by decide +kernel) (pa_cons (pv 5) pa_nil)) (pe_ifExp (pt_cmpR op_ne (pv 9) (pv 10) (nomark _)) (pe_ix (ix_listK K rfl) (pv 5) (pv 10) (fun _ _ => rfl)) pe_int)) (nomark _))))) (pss_one (ps_ret pe_bl)) pss_nil) (pss_one (ps_ret (pe_cmpR op_eq (pe_call (ok_held T) (hr.mono (by decide)) rfl T.g_held T.F_held.kp T.b_held .nil passL (pa_cons (pv 12) (pa_cons (pe_lst (pa_cons (pv 9) (pa_cons (pv 10) pa_nil))) pa_nil))) (pe_ix (ix_listK K rfl) (pv 5) (pv 9) (fun _ _ => rfl)) (nomark _)))))))))))))))))))), ?_⟩
    refine ⟨_, rfl, a, ns, rfl, hs, hl, fun d m nd nda => ?_⟩
    have e0 := same_new nd (.lst (diceL a 0 m 0))
    have D0 : Dice (upd H d (.lst (diceL a 0 m 0))) d a := ⟨nda, 0, m, 0, by omega, upd_same⟩
    have hs0 := e0.seq hs
    have t0 := htb.ext e0
    generalize upd H d (.lst (diceL a 0 m 0)) = H0 at D0 hs0 t0
    clear e0 nd htb hs
    -- the rooms
    refine ⟨_, rfl, d, a, 6, ns, rfl, D0, hs0, ⟨by decide, by decide⟩, fun v1 i1 m1 r1 a1 b1 c1 => ?_⟩
    obtain ⟨D1, hs1, k1⟩ := draw D0 hs0 (m := m1) (r := r1) c1
    have t1 := tabs_kp t0 k1 D0
    refine ⟨_, _, rfl, rfl, ?_⟩
    generalize upd H0 d (.lst (diceL a i1 m1 r1)) = H1 at D1 hs1 t1
    clear D0 hs0 k1 t0 c1
    generalize erm : (1 : Int) + v1 = rm
    -- the wood
    refine ⟨_, rfl, fun p0 dx ny ndx ne => ⟨p0, dx, 2, rm, by subst erm; rfl, upd_same, fun _ A1 x H7 hx R7 S7 kp new => ⟨rfl, ?_⟩, fun z => absurd ⟨⟨by omega, by omega⟩, by omega, by omega⟩ z⟩⟩
    have Wd0 : Wld _ _ _ Z0 _ := (wld_made (d := d) (a := a) ny ndx S7 kp new t1).1
    have R7p := R7.plain
    have Di0 : Die K (pl (diC H1 d a)) d a ns := (diC_die D1 hs1).plain
    have F0 : WFW (newW 2 rm) := newW_wf (by omega) (by omega) (by omega) (by omega)
    generalize pl A1 = A at Wd0 R7p
    generalize pl (diC H1 d a) = C at Wd0 Di0
    clear R7 S7 kp new D1 hs1 t1 ny ndx ne
    subst hx
    -- calls, until it is full
    have rm1 : 1 ≤ rm := by omega
    have rm6 : rm ≤ 6 := by omega
    refine ⟨_, rfl, rm, by subst erm; rfl, by omega, by omega, ?_⟩
    refine for_range (lo := 0) (n := rm.toNat) (fun i σ H => ∃ (u2 : Option V) (A : Hp) (x : Ad) (W : Wd), σ = [some (.ref a), some (.ref d), u2, none, none, none, none, none, none, none, none, some (.int rm), some (.ref x.p)] ∧ Wld [(P0, qLam)] H A Z0 C ∧ WA K A x W ∧ Ch rm i W) ⟨none, A, x, newW 2 rm, by subst erm; rfl, Wd0, R7p, F0, rfl, rfl, rfl, by rw [show (newW 2 rm).frames = [] from rfl]; rfl, fun r f z => by cases z⟩ ?_ ?_
    · clear Wd0 R7p F0 H7 x A
      rintro i σ H hi ⟨u2, A, x, W, rfl, Wl, R, Cw⟩
      refine gName_to ?_
      refine ⟨_, rfl, x.p, _, _, rfl, Wl.sA _ _ R.ins, wf_no (by decide +kernel), _, rfl, by show 2 ≤ sizeLine; exact sz (by omega), fun l nl => ?_⟩
      have Wl1 := Wl.same (same_new nl (.lst [V.int (0 + (i : Int)), V.int 5]))
      obtain ⟨r, W1, e1, C1⟩ := Cw.step (by omega) (vs := [0 + (i : Int), 5]) rfl
      refine ⟨A, x, W, 0, l, [0 + (i : Int), 5], rfl, ⟨Wl1.sA, R, Cw.wf⟩, SqL.of upd_same, ?_⟩
      rw [e1]
      intro A2 x2 H2 hx R2 S2
      exact ⟨_, pl A2, x2, W1, by rw [hx]; rfl, Wl1.stA S2, R2.plain, C1⟩
    · clear Wd0 R7p F0 H7 x A
      rintro σ H ⟨u2, A, x, W, rfl, Wl, R, Cw⟩
      have hfull : ((rm.toNat : Nat) : Int) = rm := by omega
      -- refused: too many values, no room
      refine ⟨Wl.tb, fun H5 eN T5 => ?_⟩
      have Wl5 := Wl.ext eN T5
      refine ⟨_, rfl, x.p, _, _, rfl, Wl5.sA _ _ R.ins, wf_no (by decide +kernel), by show 4 ≤ sizeLine; exact sz (by omega), fun l nl => ?_⟩
      have Wl6 := Wl5.same (same_new nl (.lst [V.int 1, V.int 2, V.int 3, V.int 4]))
      refine ⟨A, x, W, 0, l, [1, 2, 3, 4], rfl, ⟨Wl6.sA, R, Cw.wf⟩, SqL.of upd_same, ?_⟩
      rw [Cw.slot (vs := [1, 2, 3, 4]) (by decide)]
      intro H7 e7
      refine ⟨.slot, by decide +kernel, rfl, rfl, fun H8 e8 => ?_⟩
      have Wl8 := (Wl6.same e7).same e8
      refine ⟨.str _, .str _, .str _, .str _, shaped_str (by decide +kernel), shaped_str (by decide +kernel), _, rfl, ifF (by decide +kernel) ?_⟩
      clear Wl Wl5 Wl6 eN T5 e7 e8 nl l
      refine ⟨Wl8.tb, fun H5 eN T5 => ?_⟩
      have Wl5 := Wl8.ext eN T5
      refine ⟨_, rfl, x.p, _, _, rfl, Wl5.sA _ _ R.ins, wf_no (by decide +kernel), by show 1 ≤ sizeLine; exact sz (by omega), fun l nl => ?_⟩
      have Wl6 := Wl5.same (same_new nl (.lst [V.int 1]))
      refine ⟨A, x, W, 1, l, [1], rfl, ⟨Wl6.sA, R, Cw.wf⟩, SqL.of upd_same, ?_⟩
      rw [Cw.room hfull (vs := [1]) (by decide)]
      intro H7 e7
      refine ⟨.room, by decide +kernel, rfl, rfl, fun H8 e8 => ?_⟩
      have Wl9 := (Wl6.same e7).same e8
      refine ⟨.str _, .str _, .str _, .str _, shaped_str (by decide +kernel), shaped_str (by decide +kernel), _, rfl, ifF (by decide +kernel) ?_⟩
      clear Wl8 Wl5 Wl6 eN T5 e7 e8 nl l
      -- the branch
      obtain ⟨W1, eb, F1, p1, p2, p3⟩ := Cw.branch hfull (by omega)
      refine ⟨_, rfl, x.p, _, _, rfl, Wl9.sA _ _ R.ins, wf_no (by decide +kernel), A, x, W, 0, 1, rfl, ⟨Wl9.sA, R, Cw.wf⟩, ?_⟩
      rw [eb]
      intro A1 x1 H1 hx R1 S1
      have Wl1 := Wl9.stA S1
      have R1p := R1.plain
      generalize pl A1 = A1 at Wl1 R1p
      rw [← hx]
      clear S1 R1 Wl9 R Cw eb
      -- three puts
      have tell : ∀ {H2 : Hp} {er : Er} {Q : Str → Hp → Prop}, (∀ H7, Same H2 H7 → Q (wE er) H7) → ∀ H7, Same H2 H7 → Q (wE er) H7 := fun h => h
      refine ⟨Wl1.tb, fun H5 eN T5 => ?_⟩
      have Wl5 := Wl1.ext eN T5
      refine ⟨_, rfl, x1.p, _, _, rfl, Wl5.sA _ _ R1p.ins, wf_no (by decide +kernel), A1, x1, W1, 1, 0, 2, 7, rfl, ⟨Wl5.sA, R1p, F1⟩, ?_⟩
      rw [p1]
      intro H7 e7
      refine ⟨.slot, by decide +kernel, rfl, rfl, fun H8 e8 => ?_⟩
      have Wl2 := (Wl5.same e7).same e8
      clear Wl1 Wl5 eN T5 e7 e8
      refine ⟨Wl2.tb, fun H5 eN T5 => ?_⟩
      have Wl5 := Wl2.ext eN T5
      refine ⟨_, rfl, x1.p, _, _, rfl, Wl5.sA _ _ R1p.ins, wf_no (by decide +kernel), A1, x1, W1, 1, 0, 1, 7, rfl, ⟨Wl5.sA, R1p, F1⟩, ?_⟩
      rw [p2]
      intro H7 e7
      refine ⟨.room, by decide +kernel, rfl, rfl, fun H8 e8 => ?_⟩
      have Wl3 := (Wl5.same e7).same e8
      clear Wl2 Wl5 eN T5 e7 e8
      refine ⟨by show 2 ≤ sizeLine; exact sz (by omega), fun l nl => ?_⟩
      have Wl4 := Wl3.same (same_new nl (.lst [V.str (wE .slot), V.str (wE .room)]))
      have hl4 : upd H8 l (.lst [V.str (wE .slot), V.str (wE .room)]) l = some _ := upd_same
      generalize upd H8 l (.lst [V.str (wE .slot), V.str (wE .room)]) = H9 at Wl4 hl4
      clear Wl3 nl
      refine gName_to ?_
      refine ⟨_, rfl, ?_⟩
      refine ⟨Wl4.tb, fun H5 eN T5 => ?_⟩
      have Wl5 := Wl4.ext eN T5
      have hl5 := eN _ _ hl4 (fun _ z => by cases z)
      refine ⟨_, rfl, x1.p, _, _, rfl, Wl5.sA _ _ R1p.ins, wf_no (by decide +kernel), _, rfl, A1, x1, W1, 1, rm, 0, 7, rfl, ⟨Wl5.sA, R1p, F1⟩, ?_⟩
      rw [p3]
      intro H7 e7
      refine ⟨.call, by decide +kernel, rfl, rfl, fun H8 e8 => ?_⟩
      have Wl6 := (Wl5.same e7).same e8
      have hl6 := e8 _ _ (e7 _ _ hl5)
      clear Wl4 Wl5 eN T5 e7 e8 hl4 hl5
      refine ⟨by show 1 ≤ sizeLine; exact sz (by omega), fun l2 nl2 => ?_⟩
      have e2 := same_new nl2 (.lst [V.str (wE .call)])
      refine ⟨l, l2, _, _, rfl, rfl, e2 _ _ hl6, upd_same, by show 2 + 1 ≤ sizeLine; exact sz (by omega), fun l3 nl3 => ?_⟩
      have e3 := same_new nl3 (.lst ([V.str (wE .slot), V.str (wE .room)] ++ [V.str (wE .call)]))
      refine ⟨by show 3 ≤ sizeLine; exact sz (by omega), fun l4 nl4 => ?_⟩
      have e4 := same_new nl4 (.lst [V.str "slot", V.str "room", V.str "call"])
      have Wl7 := ((Wl6.same e2).same e3).same e4
      refine ⟨.list [.str "slot", .str "room", .str "call"], .list [.str "slot", .str "room", .str "call"], .lst (SqL.of (e4 _ _ upd_same)) (.cons (.str _) (.cons (.str _) (.cons (.str _) .nil))), .lst (SqL.of upd_same) (.cons (.str _) (.cons (.str _) (.cons (.str _) .nil))), by decide +kernel, by decide +kernel, _, rfl, ifF (by decide +kernel) ?_⟩
      have Di := Di0
      generalize upd (upd (upd H8 l2 (.lst [V.str (wE .call)])) l3 (.lst ([V.str (wE .slot), V.str (wE .room)] ++ [V.str (wE .call)]))) l4 (.lst [V.str "slot", V.str "room", V.str "call"]) = H2 at Wl7
      clear Wl6 e2 e3 e4 hl6 nl2 nl3 nl4 Di0 tell p1 p2 p3 F1 R1p
      -- many, own
      refine ⟨_, rfl, d, a, 6, ns, rfl, Di.dH Wl7.sC, Di.sH Wl7.sC, ⟨by decide, by decide⟩, fun nv i3 m3 r3 a3 b3 c3 => ?_⟩
      obtain ⟨D3, _, k3⟩ := draw (Di.dH Wl7.sC) (Di.sH Wl7.sC) (m := m3) (r := r3) c3
      obtain ⟨C3, Wl8, Di3, hC3⟩ := Wl7.drawnK Di k3 D3
      refine ⟨_, _, rfl, rfl, ?_⟩
      refine ⟨6, rfl, by omega, by omega, fun S nS => ?_⟩
      refine lc_range (lo := 0) (n := (6 : Int).toNat) (fun i H' => ∃ (os : List Int) (C' : Hp), H' S = some (.lst (os.map V.int)) ∧ (∀ o ∈ os, 1 ≤ o ∧ o ≤ 4) ∧ os.length = i ∧ Wld [(P0, qLam)] H' A1 Z0 C' ∧ Die K C' d a ns ∧ C' S = none) ⟨[], C3, upd_same, by simp, rfl, Wl8.same (same_new nS _), Di3, off_new Wl8.sC nS⟩ ?_ ?_
      · rintro i H' hi ⟨os, C', q1, q2, q3, Wl, Di, cS⟩
        refine ⟨rfl, yesT rfl ?_⟩
        refine ⟨_, rfl, d, a, 4, ns, rfl, Di.dH Wl.sC, Di.sH Wl.sC, ⟨by decide, by decide⟩, fun v i4 m4 r4 a4 b4 c4 => ?_⟩
        obtain ⟨D4, _, k4⟩ := draw (Di.dH Wl.sC) (Di.sH Wl.sC) (m := m4) (r := r4) c4
        obtain ⟨C4, Wl4, Di4, hC4⟩ := Wl.drawnK Di k4 D4
        obtain ⟨_, _, _, _, _, hdC⟩ := Di.dice
        have nSd : S ≠ d := fun z => by rw [z, hdC] at cS; cases cS
        have q1' := k4 _ _ nSd q1
        have cS4 := (hC4 _ nSd).trans cS
        refine ⟨_, _, rfl, rfl, _, q1', szl (by rw [List.length_map]; omega), os ++ [1 + v], C4, by rw [upd_same, List.map_append]; rfl, fun o hm => ?_, by rw [List.length_append, q3]; rfl, Wl4.gar q1' (off_new Wl8.sA nS) (off_new Wl8.sB nS) cS4, Di4, cS4⟩
        rcases List.mem_append.mp hm with z | z
        · exact q2 o z
        · rw [List.mem_singleton.mp z]; omega
      · rintro H3 ⟨os, C4, q1, q2, q3, Wl, Di, cS⟩
        have l6 : os.length = 6 := q3
        have Wl9 := Wl.join q1 (off_new Wl8.sA nS) (off_new Wl8.sB nS) (fun _ z => by cases z) (fun _ z => by cases z)
        have Di9 := Di.upd (b := S) (o := .lst (os.map V.int)) Wl.sC (.inr cS)
        have hS : upd C4 S (.lst (os.map V.int)) S = some (.lst (os.map V.int)) := upd_same
        generalize upd C4 S (.lst (os.map V.int)) = C5 at Wl9 Di9 hS
        clear Wl Di cS q1 q3 Wl8 Di3 hC3 D3 k3 Wl7 nS
        refine ⟨by show 2 ≤ sizeLine; exact sz (by omega), fun t nt => ?_⟩
        have Wl10 := Wl9.same (same_new nt (.tup [V.int (1 + nv), V.ref S]))
        refine ⟨t, _, rfl, SqT.of upd_same, rfl, ?_⟩
        generalize upd H3 t (.tup [V.int (1 + nv), V.ref S]) = H4 at Wl10
        clear Wl9 nt
        refine ⟨_, _, rfl, _, _, rfl, rfl, ?_⟩
        -- the second wood
        refine fun p0 dx ny ndx ne => ⟨p0, dx, 6, 40, rfl, upd_same, fun _ A2 x2 H7 hx R7 S7 kp new => ⟨rfl, ?_⟩, fun z => absurd ⟨⟨by omega, by omega⟩, by omega, by omega⟩ z⟩
        have Wl11 := (Wl10.stB (stp_made ny ndx S7 kp new)).swap
        have R7p := R7.plain
        generalize pl A2 = A2 at Wl11 R7p
        clear R7 S7 kp new ny ndx ne Wl10
        subst hx
        refine ⟨6, rfl, by omega, by omega, ?_⟩
        refine for_range (lo := 0) (n := (6 : Int).toNat) (fun i σ H => ∃ (u2 u6 : Option V) (A : Hp) (x : Ad) (W : Wd), σ = [some (.ref a), some (.ref d), u2, some (.ref l), some (.int (1 + nv)), some (.ref S), u6, none, none, none, none, some (.int rm), some (.ref x.p)] ∧ Wld [(P0, qLam)] H A A1 C5 ∧ WA K A x W ∧ Own (nn os i 0) W ∧ W.frames.length ≤ 4 * i) ⟨u2, none, A2, x2, newW 6 40, rfl, Wl11, R7p, by rw [nn_zero]; exact own_new, Nat.zero_le _⟩ ?_ ?_
        · clear Wl11 R7p H7 x2 A2 u2
          rintro i σ H hi ⟨u2, u6, A, x, W, rfl, Wl, R, O, lf⟩
          have hi6 : i < 6 := hi
          refine gName_to ?_
          obtain ⟨o, ho⟩ : ∃ o, os[i]? = some o := ⟨_, List.getElem?_eq_getElem (by omega)⟩
          have o4 := q2 o (List.mem_of_getElem? ho)
          have od : os.getD i 0 = o := by rw [List.getD_eq_getElem?_getD, ho]; rfl
          have hat : atI (os.map V.int) (0 + (i : Int)) = some (V.int o) := by rw [Int.zero_add]; exact atI_nat (by rw [List.getElem?_map, ho]; rfl)
          refine ⟨_, rfl, _, rfl, S, _, _, _, rfl, rfl, SqL.of (Wl.sC _ _ hS), hat, o, rfl, by omega, by omega, ?_⟩
          refine for_range (lo := 0) (n := o.toNat) (fun k σ H => ∃ (u2 : Option V) (A : Hp) (x : Ad) (W : Wd), σ = [some (.ref a), some (.ref d), u2, some (.ref l), some (.int (1 + nv)), some (.ref S), some (.int (0 + (i : Int))), none, none, none, none, some (.int rm), some (.ref x.p)] ∧ Wld [(P0, qLam)] H A A1 C5 ∧ WA K A x W ∧ Own (nn os i k) W ∧ W.frames.length ≤ 4 * i + k) ⟨u2, A, x, W, rfl, Wl, R, O, by omega⟩ ?_ ?_
          · clear Wl R O lf u2 x W H A
            rintro k' σ H hk' ⟨u2, A, x, W, rfl, Wl, R, O, lf⟩
            refine gName_to ?_
            refine ⟨_, rfl, x.p, _, _, rfl, Wl.sA _ _ R.ins, wf_no (by decide +kernel), _, rfl, _, rfl, by show 1 ≤ sizeLine; exact sz (by omega), fun l9 nl9 => ?_⟩
            have Wl1 := Wl.same (same_new nl9 (.lst [V.int (0 + (k' : Int))]))
            obtain ⟨r, W1, e1, O1, l1⟩ := O.step (h := i) hi6 (by omega) (vs := [0 + (k' : Int)]) (by simp)
            refine ⟨A, x, W, (i : Int), l9, [0 + (k' : Int)], congrArg (fun z => [V.ref x.p, V.int z, V.ref l9]) (Int.zero_add _), ⟨Wl1.sA, R, O.wf⟩, SqL.of upd_same, ?_⟩
            rw [e1]
            intro A2 x2 H2 hx R2 S2
            exact ⟨_, pl A2, x2, W1, by rw [hx]; rfl, Wl1.stA S2, R2.plain, nn_step os i k' ▸ O1, by omega⟩
          · rintro σ H2 ⟨u2, A, x, W, rfl, Wl, R, O, lf⟩
            exact ⟨u2, _, A, x, W, rfl, Wl, R, by rw [← od, nn_next] at O; exact O, by omega⟩
        · clear Wl11 R7p H7 x2 A2 u2
          rintro σ H ⟨u2, u6, A, x, W, rfl, Wl, R, O, lf⟩
          have O : Own (nn os 6 0) W := O
          have F := O.wf
          have os0 : ∀ o ∈ os, 0 ≤ o := fun o ho => by have := q2 o ho; omega
          clear lf
          -- some hands
          refine ⟨_, rfl, 1 + nv, rfl, by omega, by omega, fun S2 nS2 => ?_⟩
          refine lc_range (lo := 0) (n := (1 + nv).toNat) (fun i H' => ∃ (hs : List Int) (C' : Hp), H' S2 = some (.lst (hs.map V.int)) ∧ (∀ h ∈ hs, 0 ≤ h ∧ h < 6) ∧ hs.length = i ∧ Wld [(P0, qLam)] H' A A1 C' ∧ Die K C' d a ns ∧ C' S2 = none ∧ C' S = some (.lst (os.map V.int))) ⟨[], C5, upd_same, by simp, rfl, Wl.same (same_new nS2 _), Di9, off_new Wl.sC nS2, hS⟩ ?_ ?_
          · rintro i H' hi ⟨hs, C', w1, w2, w3, Wl', Di, cS, cO⟩
            refine ⟨rfl, yesT rfl ?_⟩
            refine ⟨_, rfl, d, a, 6, ns, rfl, Di.dH Wl'.sC, Di.sH Wl'.sC, ⟨by decide, by decide⟩, fun v i4 m4 r4 a4 b4 c4 => ?_⟩
            obtain ⟨D4, _, k4⟩ := draw (Di.dH Wl'.sC) (Di.sH Wl'.sC) (m := m4) (r := r4) c4
            obtain ⟨C4, Wl4, Di4, hC4⟩ := Wl'.drawnK Di k4 D4
            obtain ⟨_, _, _, _, _, hdC⟩ := Di.dice
            have nSd : S2 ≠ d := fun z => by rw [z, hdC] at cS; cases cS
            have nSd1 : S ≠ d := fun z => by rw [z, hdC] at cO; exact dice_ne (Option.some.inj cO).symm
            have w1' := k4 _ _ nSd w1
            have cS4 := (hC4 _ nSd).trans cS
            refine ⟨_, w1', szl (by rw [List.length_map]; omega), hs ++ [v], C4, by rw [upd_same, List.map_append]; rfl, fun o hm => ?_, by rw [List.length_append, w3]; rfl, Wl4.gar w1' (off_new Wl.sA nS2) (off_new Wl.sB nS2) cS4, Di4, cS4, (hC4 _ nSd1).trans cO⟩
            rcases List.mem_append.mp hm with z | z
            · exact w2 o z
            · rw [List.mem_singleton.mp z]; omega
          · rintro H3 ⟨hs, C6, w1, w2, w3, Wl3, Di3, cS, cO⟩
            refine gName_to ?_
            have hs6 : hs.length ≤ 6 := by omega
            clear Wl Di9 hS cS w3 nS2
            -- lists of hands
            refine ⟨_, rfl, 6, rfl, RgOk.of_le (by omega) (by omega) (by omega) (by omega), fun l1 n1 => ?_⟩
            have e1 := same_new n1 (.lst (rgV 0 6))
            have h1 : upd H3 l1 (.lst (rgV 0 6)) l1 = some (.lst (([0, 1, 2, 3, 4, 5] : List Int).map V.int)) := upd_same
            have w1 := e1 _ _ w1
            have Wl3 := Wl3.same e1
            generalize upd H3 l1 (.lst (rgV 0 6)) = H4 at h1 w1 Wl3
            clear e1 n1
            refine ⟨6, rfl, RgOk.of_le (by omega) (by omega) (by omega) (by omega), fun l2 n2 => ?_⟩
            have e2 := same_new n2 (.lst (rgV 0 6))
            have h2 : upd H4 l2 (.lst (rgV 0 6)) l2 = some (.lst (([0, 1, 2, 3, 4, 5] : List Int).map V.int)) := upd_same
            have w1 := e2 _ _ w1
            have h1 := e2 _ _ h1
            have Wl3 := Wl3.same e2
            generalize upd H4 l2 (.lst (rgV 0 6)) = H5 at h1 h2 w1 Wl3
            clear e2 n2
            refine ⟨l2, _, rfl, SqL.of h2, fun l3 n3 => ?_⟩
            have e3 := same_new n3 (.lst ((([0, 1, 2, 3, 4, 5] : List Int).map V.int).reverse))
            have h3 : upd H5 l3 (.lst ((([0, 1, 2, 3, 4, 5] : List Int).map V.int).reverse)) l3 = some (.lst (([5, 4, 3, 2, 1, 0] : List Int).map V.int)) := upd_same
            have w1 := e3 _ _ w1
            have h1 := e3 _ _ h1
            have Wl3 := Wl3.same e3
            generalize upd H5 l3 (.lst ((([0, 1, 2, 3, 4, 5] : List Int).map V.int).reverse)) = H6 at h1 h3 w1 Wl3
            clear e3 n3 h2
            refine ⟨by show 0 ≤ sizeLine; exact sz (by omega), fun l4 n4 => ?_⟩
            have e4 := same_new n4 (.lst [])
            have h4 : upd H6 l4 (.lst []) l4 = some (.lst (([] : List Int).map V.int)) := upd_same
            have w1 := e4 _ _ w1
            have h1 := e4 _ _ h1
            have h3 := e4 _ _ h3
            have Wl3 := Wl3.same e4
            generalize upd H6 l4 (.lst []) = H7 at h1 h3 h4 w1 Wl3
            clear e4 n4
            obtain ⟨ls, els⟩ : ∃ ls : List (Addr × List Int), ls = [(S2, hs), (l1, [0, 1, 2, 3, 4, 5]), (l3, [5, 4, 3, 2, 1, 0]), (l4, [])] := ⟨_, rfl⟩
            have Ls : LsAt H7 ls := fun q hq => by
              subst els
              rcases List.mem_cons.mp hq with z | hq
              · subst z; exact ⟨w1, hs6, w2⟩
              rcases List.mem_cons.mp hq with z | hq
              · subst z; exact ⟨h1, by show ([0, 1, 2, 3, 4, 5] : List Int).length ≤ 6; decide, by show ∀ h ∈ ([0, 1, 2, 3, 4, 5] : List Int), 0 ≤ h ∧ h < 6; decide⟩
              rcases List.mem_cons.mp hq with z | hq
              · subst z; exact ⟨h3, by show ([5, 4, 3, 2, 1, 0] : List Int).length ≤ 6; decide, by show ∀ h ∈ ([5, 4, 3, 2, 1, 0] : List Int), 0 ≤ h ∧ h < 6; decide⟩
              rcases List.mem_cons.mp hq with z | hq
              · subst z; exact ⟨h4, by show ([] : List Int).length ≤ 6; decide, by show ∀ h ∈ ([] : List Int), 0 ≤ h ∧ h < 6; decide⟩
              · cases hq
            refine ⟨by show 4 ≤ sizeLine; exact sz (by omega), fun L nL => ?_⟩
            have e5 := same_new nL (.lst [V.ref S2, V.ref l1, V.ref l3, V.ref l4])
            have hL : upd H7 L (.lst [V.ref S2, V.ref l1, V.ref l3, V.ref l4]) L = some (.lst (ls.map fun q => V.ref q.1)) := by rw [upd_same, els]; rfl
            have Ls := Ls.same e5
            have Wl3 := Wl3.same e5
            have exs : [V.ref S2, V.ref l1, V.ref l3, V.ref l4] = ls.map fun q => V.ref q.1 := by rw [els]; rfl
            generalize upd H7 L (.lst [V.ref S2, V.ref l1, V.ref l3, V.ref l4]) = H8 at hL Ls Wl3
            clear w1 h1 h3 h4 e5 nL w2 exs els
            refine ⟨L, rfl, ⟨_, SqL.of hL⟩, ?_⟩
            refine for_list (K := K) (a := L) (xs := ls.map fun q => V.ref q.1) (fun i σ H' => ∃ u6 u8 : Option V, σ = [some (.ref a), some (.ref d), u2, some (.ref l), some (.int (1 + nv)), some (.ref S), u6, some (.ref S2), u8, none, none, some (.int rm), some (.ref x.p)] ∧ Same H8 H') ⟨u6, none, rfl, Same.refl _⟩ (fun i σ H' _ ⟨_, _, _, e⟩ => SqL.of (e _ _ hL)) ?_ ?_
            · rintro i v σ H' hi ⟨u6, u8, rfl, e8⟩
              obtain ⟨q, hq, rfl⟩ : ∃ q, ls[i]? = some q ∧ v = V.ref q.1 := by
                rw [List.getElem?_map] at hi
                cases e : ls[i]? with
                | none => rw [e] at hi; cases hi
                | some r => rw [e] at hi; exact ⟨r, rfl, (Option.some.inj hi).symm⟩
              have Wl4 := Wl3.same e8
              obtain ⟨y1, y2, y3⟩ := (Ls.same e8) q (List.mem_of_getElem? hq)
              refine gName_to ?_
              refine ⟨_, rfl, _, rfl, A, x, W, q.1, q.2, rfl, ⟨Wl4.sA, R, F⟩, SqL.of y1, by omega, fun _ H9 e9 => ?_, fun ⟨h, hm, z⟩ => absurd (⟨(y3 h hm).1, by have := (y3 h hm).2; rw [O.tops]; omega⟩ : hOk W h) z⟩
              have Wl5 := Wl4.same e9
              refine ⟨_, rfl, q.1, q.2, rfl, SqL.of (e9 _ _ y1), by omega, fun ms p hp hm np => ?_⟩
              have e10 := same_new np (.lst (ms.map V.int))
              have hp1 : upd H9 p (.lst (ms.map V.int)) p = some (.lst (ms.map V.int)) := upd_same
              have Wl6 := Wl5.same e10
              have e11 := (e8.trans e9).trans e10
              generalize upd H9 p (.lst (ms.map V.int)) = H10 at hp1 Wl6 e11
              clear Wl5 e10 np
              have ml : ms.length ≤ 6 := by
                have := sub_len (l := ms) (m := ([0, 1, 2, 3, 4, 5] : List Int)) (hp.imp fun h => by omega) fun r hr => by
                  have := y3 r ((hm r).mp hr)
                  have : r = 0 ∨ r = 1 ∨ r = 2 ∨ r = 3 ∨ r = 4 ∨ r = 5 := by omega
                  simpa using this
                simpa using this
              refine ⟨p, rfl, ⟨_, SqL.of hp1⟩, fun D nD => ?_⟩
              refine lc_list (K := K) (a := p) (xs := ms.map V.int) (fun i H' => H' D = some (.lst (((ms.take i).map fun h => os.getD h.toNat 0).map V.int)) ∧ Same H10 H') ⟨upd_same, same_new nD _⟩ (fun i H' _ ⟨_, e⟩ => SqL.of (e _ _ hp1)) ?_ ?_
              · rintro j v H' hj ⟨z1, z2⟩
                obtain ⟨h, hh, rfl⟩ : ∃ h, ms[j]? = some h ∧ v = V.int h := by
                  rw [List.getElem?_map] at hj
                  cases e : ms[j]? with
                  | none => rw [e] at hj; cases hj
                  | some r => rw [e] at hj; exact ⟨r, rfl, (Option.some.inj hj).symm⟩
                have h6 := y3 h ((hm h).mp (List.mem_of_getElem? hh))
                have hat : atI (os.map V.int) h = some (V.int (os.getD h.toNat 0)) := by
                  obtain ⟨n, rfl⟩ : ∃ n : Nat, h = (n : Int) := ⟨h.toNat, by omega⟩
                  refine atI_nat ?_
                  rw [List.getElem?_map, List.getElem?_eq_getElem (by omega), List.getD_eq_getElem?_getD]
                  show some _ = some (V.int ((os[n]?).getD 0))
                  rw [List.getElem?_eq_getElem (by omega)]; rfl
                refine ⟨rfl, yesT rfl ?_⟩
                refine ⟨_, rfl, _, rfl, S, _, _, _, rfl, rfl, SqL.of (z2 _ _ (Wl6.sC _ _ cO)), hat, ?_⟩
                refine ⟨_, z1, szl (by rw [List.length_map, List.length_map, List.length_take]; omega), by rw [upd_same, take_snocC hh, List.map_append, List.map_append]; rfl, fun b o e => by rw [upd_ne (ne_of_none e nD)]; exact z2 _ _ e⟩
              · rintro H11 ⟨z1, z2⟩
                rw [List.length_map, List.take_length] at z1
                refine ⟨D, _, rfl, SqL.of z1, ?_⟩
                have ee := held_own O os0 y3 hp hm
                refine ⟨rfl, _, rfl, ifF (by rw [ee]; simp) ?_⟩
                exact ⟨_, _, rfl, e11.trans z2⟩
            · rintro σ H9 ⟨u6, u8, rfl, e9⟩
              have Wl4 := Wl3.same e9
              clear Wl3 hL Ls e9
              -- two hands
              refine ⟨_, rfl, d, a, 6, ns, rfl, Di3.dH Wl4.sC, Di3.sH Wl4.sC, ⟨by decide, by decide⟩, fun v5 i5 m5 r5 a5 b5 c5 => ?_⟩
              obtain ⟨D5, _, k5⟩ := draw (Di3.dH Wl4.sC) (Di3.sH Wl4.sC) (m := m5) (r := r5) c5
              obtain ⟨C5', Wl5, Di5, hC5⟩ := Wl4.drawnK Di3 k5 D5
              obtain ⟨_, _, _, _, _, hdC⟩ := Di3.dice
              have nSd : S ≠ d := fun z => by rw [z, hdC] at cO; exact dice_ne (Option.some.inj cO).symm
              have cO5 := (hC5 _ nSd).trans cO
              clear cO hdC hC5 Wl4 Di3
              refine ⟨_, rfl, d, a, 6, ns, rfl, Di5.dH Wl5.sC, Di5.sH Wl5.sC, ⟨by decide, by decide⟩, fun v6 i6 m6 r6 a6 b6 c6 => ?_⟩
              obtain ⟨D6, _, k6⟩ := draw (Di5.dH Wl5.sC) (Di5.sH Wl5.sC) (m := m6) (r := r6) c6
              obtain ⟨C6', Wl6, Di6, hC6⟩ := Wl5.drawnK Di5 k6 D6
              have cO6 := (hC6 _ nSd).trans cO5
              clear cO5 hC6 Wl5 Di5 D5 k5
              refine ⟨_, _, rfl, ?_⟩
              obtain ⟨n5, rfl⟩ : ∃ n : Nat, v5 = (n : Int) := ⟨v5.toNat, by omega⟩
              obtain ⟨n6, rfl⟩ : ∃ n : Nat, v6 = (n : Int) := ⟨v6.toNat, by omega⟩
              generalize upd (upd H9 d (.lst (diceL a i5 m5 r5))) d (.lst (diceL a i6 m6 r6)) = H10 at Wl6
              obtain ⟨W1, eb, Br⟩ := O.brd (a := n5) (b := n6) (by omega) (by omega)
              refine ⟨_, rfl, x.p, _, _, rfl, Wl6.sA _ _ R.ins, wf_no (by decide +kernel), _, rfl, _, rfl, A, x, W, (n5 : Int), (n6 : Int), rfl, ⟨Wl6.sA, R, F⟩, ?_⟩
              rw [eb]
              intro A2 x2 H11 hx R2 S2
              have Wl7 := Wl6.stA S2
              have R2p := R2.plain
              generalize pl A2 = A2 at Wl7 R2p
              clear R2 S2 Wl6 eb
              have F1 := Br.wf
              have g5 : nn os 6 0 n5 = (os.getD n5 0).toNat := nn_all os (by omega)
              have osn : ∀ n : Nat, n < 6 → 0 ≤ os.getD n 0 ∧ atI (os.map V.int) (n : Int) = some (V.int (os.getD n 0)) := fun n hn => by
                refine ⟨?_, atI_nat ?_⟩
                · rw [List.getD_eq_getElem?_getD, List.getElem?_eq_getElem (by omega)]
                  exact os0 _ (List.getElem_mem (by omega))
                · rw [List.getElem?_map, List.getElem?_eq_getElem (by omega), List.getD_eq_getElem?_getD, List.getElem?_eq_getElem (by omega)]; rfl
              have q5 := osn n5 (by omega)
              have q6 := osn n6 (by omega)
              have hk5 : hOk W1 (n5 : Int) := ⟨by omega, by rw [Br.tops]; omega⟩
              have hk6 : hOk W1 (n6 : Int) := ⟨by omega, by rw [Br.tops]; omega⟩
              have ln := Br.len
              refine ⟨_, rfl, _, rfl, _, rfl, A2, x2, W1, (n5 : Int), (n6 : Int), by rw [hx]; rfl, ⟨Wl7.sA, R2p, F1⟩, fun _ _ H12 e12 => ?_, fun z => absurd ⟨hk5, hk6⟩ z⟩
              have Wl8 := Wl7.same e12
              refine ⟨_, rfl, _, rfl, S, _, _, _, rfl, rfl, SqL.of (Wl8.sC _ _ cO6), q5.2, rfl, _, rfl, ?_⟩
              have ef : ((path W1.frames (top W1 (n5 : Int))).filter fun r => decide (r ∈ path W1.frames (top W1 (n6 : Int)))) = path W1.frames (top W1 (n5 : Int)) := List.filter_eq_self.mpr fun r hr => by rw [Br.same]; exact decide_eq_true hr
              have ee : (((path W1.frames (top W1 (n5 : Int))).filter fun r => decide (r ∈ path W1.frames (top W1 (n6 : Int)))).length : Int) = os.getD n5 0 := by rw [ef, ln, g5]; have := q5.1; omega
              refine ifF (by rw [ee]; simp) ?_
              refine ⟨_, rfl, A2, x2, W1, by rw [hx]; rfl, ⟨Wl8.sA, R2p, F1⟩, fun H13 e13 => ?_⟩
              have Wl9 := Wl8.same e13
              have eu := used_own os0 l6 (by omega) (by omega) Br
              refine ⟨_, rfl, S, os, rfl, SqL.of (Wl9.sC _ _ cO6), ?_⟩
              have eh : ((heldL W1.frames ([(n5 : Int), (n6 : Int)].map (top W1))).length : Int) = os.getD n5 0 := by
                have hl : (heldL W1.frames ([(n5 : Int), (n6 : Int)].map (top W1))).length = (path W1.frames (top W1 (n5 : Int))).length := by
                  refine same_len (heldL_nd _ _) (F1.tpath _).nodup fun r => ?_
                  rw [heldL_mem]
                  constructor
                  · rintro ⟨t, ht, hr⟩
                    obtain ⟨y, hy, rfl⟩ := List.mem_map.mp ht
                    rcases List.mem_cons.mp hy with w | w
                    · rw [w] at hr; exact hr
                    · rw [List.mem_singleton.mp w, Br.same] at hr; exact hr
                  · intro hr
                    exact ⟨_, List.mem_map.mpr ⟨(n5 : Int), List.mem_cons_self, rfl⟩, hr⟩
                rw [hl, ln, g5]
                have := q5.1
                omega
              refine ⟨_, rfl, _, rfl, rfl, _, rfl, ?_⟩
              by_cases z : n5 = n6
              · refine ifF (by rw [z]; simp) ?_
                rw [if_neg (fun w => w z)] at eu
                refine ⟨_, _, rfl, rfl, rfl, _, rfl, ifF (by rw [eu]; simp) ?_⟩
                refine ⟨_, rfl, _, rfl, _, rfl, by show 2 ≤ sizeLine; exact sz (by omega), fun l9 n9 => ?_⟩
                have Wl10 := Wl9.same (same_new n9 (.lst [V.int (n5 : Int), V.int (n6 : Int)]))
                refine ⟨A2, x2, W1, l9, [(n5 : Int), (n6 : Int)], by rw [hx]; rfl, ⟨Wl10.sA, R2p, F1⟩, SqL.of upd_same, by show 2 ≤ 1000; omega, fun _ H14 e14 => ?_, fun ⟨h, hm, zz⟩ => ?_⟩
                · refine ⟨_, rfl, _, rfl, S, _, _, _, rfl, rfl, SqL.of (e14 _ _ (Wl10.sC _ _ cO6)), q5.2, rfl, ?_⟩
                  rw [eh]
                  have et : decide (V.int (os.getD n5 0) = V.int (os.getD n5 0)) = true := decide_eq_true rfl
                  rw [et]
                  exact k _
                · exfalso
                  have hm : h ∈ [(n5 : Int), (n6 : Int)] := hm
                  rcases List.mem_cons.mp hm with w | w
                  · rw [w] at zz; exact zz hk5
                  · rw [List.mem_singleton.mp w] at zz; exact zz hk6
              · refine ifT (by have : ((n5 : Nat) : Int) ≠ (n6 : Int) := by omega
                               simp [this]) ?_
                rw [if_pos z] at eu
                refine ⟨_, rfl, _, rfl, S, _, _, _, rfl, rfl, SqL.of (Wl9.sC _ _ cO6), q6.2, ?_⟩
                refine ⟨_, _, rfl, rfl, rfl, _, rfl, ifF (by rw [eu]; simp) ?_⟩
                refine ⟨_, rfl, _, rfl, _, rfl, by show 2 ≤ sizeLine; exact sz (by omega), fun l9 n9 => ?_⟩
                have Wl10 := Wl9.same (same_new n9 (.lst [V.int (n5 : Int), V.int (n6 : Int)]))
                refine ⟨A2, x2, W1, l9, [(n5 : Int), (n6 : Int)], by rw [hx]; rfl, ⟨Wl10.sA, R2p, F1⟩, SqL.of upd_same, by show 2 ≤ 1000; omega, fun _ H14 e14 => ?_, fun ⟨h, hm, zz⟩ => ?_⟩
                · refine ⟨_, rfl, _, rfl, S, _, _, _, rfl, rfl, SqL.of (e14 _ _ (Wl10.sC _ _ cO6)), q5.2, rfl, ?_⟩
                  rw [eh]
                  have et : decide (V.int (os.getD n5 0) = V.int (os.getD n5 0)) = true := decide_eq_true rfl
                  rw [et]
                  exact k _
                · exfalso
                  have hm : h ∈ [(n5 : Int), (n6 : Int)] := hm
                  rcases List.mem_cons.mp hm with w | w
                  · rw [w] at zz; exact zz hk5
                  · rw [List.mem_singleton.mp w] at zz; exact zz hk6
end
end Sk
end
section
/-! SwHead of law_k11_known_edges: the run of the top, by facts. -/
namespace Sk
open PySem PySem.Spec PyProof.Rows L2
def d_used : He.DefD := ⟨("used", none), "used", "used", defArgs s_used, defBody s_used, defScope s_used, [], []⟩
def d_rooms_of : He.DefD := ⟨("rooms_of", none), "rooms_of", "rooms_of", defArgs s_rooms_of, defBody s_rooms_of, defScope s_rooms_of, [], []⟩
def d_top : He.DefD := ⟨("top", none), "top", "top", defArgs s_top, defBody s_top, defScope s_top, [], []⟩
def d_held : He.DefD := ⟨("held", none), "held", "held", defArgs s_held, defBody s_held, defScope s_held, [], []⟩
def d_common : He.DefD := ⟨("common", none), "common", "common", defArgs s_common, defBody s_common, defScope s_common, [], []⟩
def d_Frame_init : He.DefD := ⟨("Frame", some "__init__"), "__init__", "Frame.__init__", defArgs s_Frame_init, defBody s_Frame_init, defScope s_Frame_init, [], []⟩
def d_Wood_init : He.DefD := ⟨("Wood", some "__init__"), "__init__", "Wood.__init__", defArgs s_Wood_init, defBody s_Wood_init, defScope s_Wood_init, [], []⟩
def d_Wood_need_hand : He.DefD := ⟨("Wood", some "need_hand"), "need_hand", "Wood.need_hand", defArgs s_Wood_need_hand, defBody s_Wood_need_hand, defScope s_Wood_need_hand, [], []⟩
def d_Wood_hands : He.DefD := ⟨("Wood", some "hands"), "hands", "Wood.hands", defArgs s_Wood_hands, defBody s_Wood_hands, defScope s_Wood_hands, [], []⟩
def d_Wood_path : He.DefD := ⟨("Wood", some "path"), "path", "Wood.path", defArgs s_Wood_path, defBody s_Wood_path, defScope s_Wood_path, [], []⟩
def d_Wood_new_room : He.DefD := ⟨("Wood", some "new_room"), "new_room", "Wood.new_room", defArgs s_Wood_new_room, defBody s_Wood_new_room, defScope s_Wood_new_room, [], []⟩
def d_Wood_need_free : He.DefD := ⟨("Wood", some "need_free"), "need_free", "Wood.need_free", defArgs s_Wood_need_free, defBody s_Wood_need_free, defScope s_Wood_need_free, [], []⟩
def d_Wood_want : He.DefD := ⟨("Wood", some "want"), "want", "Wood.want", defArgs s_Wood_want, defBody s_Wood_want, defScope s_Wood_want, [], []⟩
def d_Wood_leave : He.DefD := ⟨("Wood", some "leave"), "leave", "Wood.leave", defArgs s_Wood_leave, defBody s_Wood_leave, defScope s_Wood_leave, [], []⟩
def d_Wood_call : He.DefD := ⟨("Wood", some "call"), "call", "Wood.call", defArgs s_Wood_call, defBody s_Wood_call, defScope s_Wood_call, [], []⟩
def d_Wood_back : He.DefD := ⟨("Wood", some "back"), "back", "Wood.back", defArgs s_Wood_back, defBody s_Wood_back, defScope s_Wood_back, [], []⟩
def d_Wood_turn_to : He.DefD := ⟨("Wood", some "turn_to"), "turn_to", "Wood.turn_to", defArgs s_Wood_turn_to, defBody s_Wood_turn_to, defScope s_Wood_turn_to, [], []⟩
def d_Wood_branch : He.DefD := ⟨("Wood", some "branch"), "branch", "Wood.branch", defArgs s_Wood_branch, defBody s_Wood_branch, defScope s_Wood_branch, [], []⟩
def d_Wood_way : He.DefD := ⟨("Wood", some "way"), "way", "Wood.way", defArgs s_Wood_way, defBody s_Wood_way, defScope s_Wood_way, [], []⟩
def d_Wood_put : He.DefD := ⟨("Wood", some "put"), "put", "Wood.put", defArgs s_Wood_put, defBody s_Wood_put, defScope s_Wood_put, [], []⟩
def d_Wood_copied : He.DefD := ⟨("Wood", some "copied"), "copied", "Wood.copied", defArgs s_Wood_copied, defBody s_Wood_copied, defScope s_Wood_copied, [], []⟩
def d_Wood_copies : He.DefD := ⟨("Wood", some "copies"), "copies", "Wood.copies", defArgs s_Wood_copies, defBody s_Wood_copies, defScope s_Wood_copies, [], []⟩
def d_Wood_places : He.DefD := ⟨("Wood", some "places"), "places", "Wood.places", defArgs s_Wood_places, defBody s_Wood_places, defScope s_Wood_places, [], []⟩
def d_Wood_calls : He.DefD := ⟨("Wood", some "calls"), "calls", "Wood.calls", defArgs s_Wood_calls, defBody s_Wood_calls, defScope s_Wood_calls, [], []⟩
def d_l_dice : He.DefD := ⟨("_law_dice", none), "_law_dice", "_law_dice", defArgs s_l_dice, defBody s_l_dice, defScope s_l_dice, [], []⟩
def d_l_next : He.DefD := ⟨("_law_next", none), "_law_next", "_law_next", defArgs s_l_next, defBody s_l_next, defScope s_l_next, [], []⟩
def d_l_told : He.DefD := ⟨("_law_told", none), "_law_told", "_law_told", defArgs s_l_told, defBody s_l_told, defScope s_l_told, [], []⟩
def d_law : He.DefD := ⟨("law", none), "law", "law", defArgs s_law, defBody s_law, defScope s_law, [], []⟩
def fnL : List He.DefD := [d_used, d_rooms_of, d_top, d_held, d_common, d_Frame_init, d_Wood_init, d_Wood_need_hand, d_Wood_hands, d_Wood_path, d_Wood_new_room, d_Wood_need_free, d_Wood_want, d_Wood_leave, d_Wood_call, d_Wood_back, d_Wood_turn_to, d_Wood_branch, d_Wood_way, d_Wood_put, d_Wood_copied, d_Wood_copies, d_Wood_places, d_Wood_calls, d_l_dice, d_l_next, d_l_told, d_law]
def faL0 : List He.Fa := [.free "len", .free "dict", .glo "rooms_of", .glo "top", .free "list", .int "MOST_HANDS" 6, .int "MOST_ROOMS" 40, .glo "BadWood", .free "range", .glo "NoHand", .free "min", .glo "NoRoom", .int "MOST_VALUES" 3, .glo "NoSlot", .glo "Frame", .glo "NoCall", .free "reversed", .free "sorted", .free "int", .glo "WoodError", .free "isinstance", .glo "_law_dice", .glo "_law_next", .glo "Wood", .glo "_law_told", .glo "held", .free "sum", .free "set", .glo "common", .glo "used"]
def faL1 : List He.Fa := [.glo "law", .exc "BadWood", .exm "BadWood" "WoodError" true, .exc "NoHand", .exm "NoHand" "WoodError" true, .exc "NoCall", .exm "NoCall" "WoodError" true, .exc "NoSlot", .exm "NoSlot" "WoodError" true, .exc "NoRoom", .exm "NoRoom" "WoodError" true, .cls "Frame", .mkr "Frame", .noat "Frame" "below", .noat "Frame" "slots", .noat "Frame" "needs", .cls "Wood", .mkr "Wood", .noat "Wood" "rooms", .noat "Wood" "frames", .noat "Wood" "tops", .noat "Wood" "marks", .noat "Wood" "many", .noat "Wood" "made", .meth "Wood" "need_hand", .meth "Wood" "hands", .meth "Wood" "path", .meth "Wood" "new_room", .meth "Wood" "need_free", .meth "Wood" "want"]
def faL2 : List He.Fa := [.meth "Wood" "leave", .meth "Wood" "call", .meth "Wood" "back", .meth "Wood" "turn_to", .meth "Wood" "branch", .meth "Wood" "way", .meth "Wood" "put", .meth "Wood" "copied", .meth "Wood" "copies", .meth "Wood" "places", .meth "Wood" "calls"]
def faL : List He.Fa := faL0 ++ (faL1 ++ (faL2))
def excC (K : PySem.W.Frag) (x : Str) : Bool := decide (PySem.W.findIn K (.ref (He.ga K x)) "__getattribute__" = some (some (.builtin "BaseException.__getattribute__"))) && (decide (PySem.W.findIn K (.ref (He.ga K x)) "__getattr__" = some none) && (PySem.W.hasDictIn K (He.ga K x) && (decide (PySem.W.findIn K (.ref (He.ga K x)) "__class__" = some (some (.builtin "object.__class__"))) && decide (PySem.W.mroIn K (He.ga K x) (.type "object") = some true))))
def excK (K : PySem.W.Frag) (x y : Str) (b : Bool) : Bool := decide (PySem.W.kitOne K (.ref (He.ga K x)) (.ref (He.ga K y)) = some b)
def exAll (K : PySem.W.Frag) : Bool := exN.all fun x => excC K x && (decide (PySem.W.kitOne K (.ref (He.ga K x)) (.type "ValueError") = some true) && exN.all fun y => excK K x y (decide (x = y)))
def exK (K : PySem.W.Frag) : Bool := decide (PySem.W.specialIn K (.builtin "object.__class__") "__get__" = some (some (.builtin "getset_descriptor.__get__"))) && (decide (PySem.W.takesIn K (.builtin "object.__class__") = some true) && exAll K)
def tfL : List He.Defn := [("law", none)]
abbrev R : PySem.W.OpenRow := PySem.W.OpenLaw.row PySem.Challenge.rw_stackwood_k11_known_edges
abbrev hk : PySem.W.Hook := He.hookX 5 faL fnL [] tfL exK
def ob (s : PySem.W.SharedT) : He.AlX := He.obsX 5 faL fnL [] tfL exK (HandSHeadRun.getT s)
theorem ob_eq (s : PySem.W.SharedT) : ob s = hk.obs s.abs := He.obsX_eq (HandSHeadRun.getT_eq s)
def looseL : List Str := (["_wall", "used", "rooms_of", "top", "held", "common", "WoodError", "BadWood", "NoHand", "NoCall", "NoSlot", "NoRoom", "MOST_HANDS", "MOST_ROOMS", "MOST_VALUES", "Frame", "Wood", "_law_dice", "_law_next", "_law_told"] : List Str)
theorem run (w : World) : HandSHeadRun.RunEq R (PySem.W.view R.prog [24]) hk ob 4000 looseL w := by
  intro os
  kernel_rfl
end Sk
end
section
/-! SwEnd of law_k11_known_edges: the walk at its head. -/
namespace Sk
open PySem PySem.Spec PyProof.Rows L2
theorem fdOf_of {K : PySem.W.Frag} {x qual : Str} {params : Arguments} {body : List Stmt} {scope : Scope} {dvs : List V} {kws : List (Str × V)} {f : Addr} {fd : FuncData} (F : FunD K x qual params body scope dvs kws f fd) : fd = fdOf K f := by
  obtain ⟨oc, od, dV, kV, doc, pm, an, cdv, ct, osl, e, lk, _⟩ := F.ex
  unfold fdOf
  rw [lk]
theorem fnT_of {K : PySem.W.Frag} {p : Str × Option Str} {name qual : Str} {st : Stmt} {fd : FuncData} (F : FunD K name qual (defArgs st) (defBody st) (defScope st) [] [] (He.fAd K p) fd) : FnT K p name qual st := by
  have e := fdOf_of F
  subst e
  exact F
theorem ex_all {K : PySem.W.Frag} (h : exK K = true) (hs : ∀ x ∈ exN, PySem.W.subIn K (.ref (He.ga K x)) (.type "BaseException") = some true) : (∀ x ∈ exN, ExcC K (He.ga K x)) ∧ (∀ x ∈ exN, PySem.W.kitOne K (.ref (He.ga K x)) (.type "ValueError") = some true) ∧ ∀ x ∈ exN, ∀ y ∈ exN, PySem.W.kitOne K (.ref (He.ga K x)) (.ref (He.ga K y)) = some (decide (x = y)) := by
  unfold exK at h
  obtain ⟨h1, h2⟩ := Bool.and_eq_true_iff.mp h
  obtain ⟨h3, h4⟩ := Bool.and_eq_true_iff.mp h2
  have h5 := List.all_eq_true.mp h4
  refine ⟨fun x hx => ?_, fun x hx => ?_, fun x hx y hy => ?_⟩
  · obtain ⟨a1, _⟩ := Bool.and_eq_true_iff.mp (h5 x hx)
    unfold excC at a1
    obtain ⟨b1, b2⟩ := Bool.and_eq_true_iff.mp a1
    obtain ⟨b3, b4⟩ := Bool.and_eq_true_iff.mp b2
    obtain ⟨b5, b6⟩ := Bool.and_eq_true_iff.mp b4
    obtain ⟨b7, b8⟩ := Bool.and_eq_true_iff.mp b6
    exact ⟨of_decide_eq_true b1, of_decide_eq_true b3, hs x hx, b5, of_decide_eq_true b7, of_decide_eq_true h1, of_decide_eq_true h3, of_decide_eq_true b8⟩
  · obtain ⟨_, a2⟩ := Bool.and_eq_true_iff.mp (h5 x hx)
    exact of_decide_eq_true (Bool.and_eq_true_iff.mp a2).1
  · obtain ⟨_, a2⟩ := Bool.and_eq_true_iff.mp (h5 x hx)
    exact of_decide_eq_true (List.all_eq_true.mp (Bool.and_eq_true_iff.mp a2).2 y hy)
theorem txt_of {K : PySem.W.Frag} {h : Heap} {mg : Str → Option Value} {w : World} (X : K.In h) (G : h.Ns mainGlobals mg) (c : He.SaysX faL fnL [] tfL exK w h K) : Txt K mg := by
  have hs : ∀ x ∈ exN, PySem.W.subIn K (.ref (He.ga K x)) (.type "BaseException") = some true := List.forall_mem_cons.mpr ⟨(He.exc_ok (c.t.d.fact 31 (f := .exc "BadWood") rfl)).2.2.1, List.forall_mem_cons.mpr ⟨(He.exc_ok (c.t.d.fact 33 (f := .exc "NoHand") rfl)).2.2.1, List.forall_mem_cons.mpr ⟨(He.exc_ok (c.t.d.fact 35 (f := .exc "NoCall") rfl)).2.2.1, List.forall_mem_cons.mpr ⟨(He.exc_ok (c.t.d.fact 37 (f := .exc "NoSlot") rfl)).2.2.1, List.forall_mem_cons.mpr ⟨(He.exc_ok (c.t.d.fact 39 (f := .exc "NoRoom") rfl)).2.2.1, fun _ z => absurd z List.not_mem_nil⟩⟩⟩⟩⟩
  obtain ⟨q1, q2, q3⟩ := ex_all c.more hs
  obtain ⟨_, f0⟩ := c.t.d.def_ 0 (d := d_used) rfl
  obtain ⟨_, f1⟩ := c.t.d.def_ 1 (d := d_rooms_of) rfl
  obtain ⟨_, f2⟩ := c.t.d.def_ 2 (d := d_top) rfl
  obtain ⟨_, f3⟩ := c.t.d.def_ 3 (d := d_held) rfl
  obtain ⟨_, f4⟩ := c.t.d.def_ 4 (d := d_common) rfl
  obtain ⟨_, f5⟩ := c.t.d.def_ 5 (d := d_Frame_init) rfl
  obtain ⟨_, f6⟩ := c.t.d.def_ 6 (d := d_Wood_init) rfl
  obtain ⟨_, f7⟩ := c.t.d.def_ 7 (d := d_Wood_need_hand) rfl
  obtain ⟨_, f8⟩ := c.t.d.def_ 8 (d := d_Wood_hands) rfl
  obtain ⟨_, f9⟩ := c.t.d.def_ 9 (d := d_Wood_path) rfl
  obtain ⟨_, f10⟩ := c.t.d.def_ 10 (d := d_Wood_new_room) rfl
  obtain ⟨_, f11⟩ := c.t.d.def_ 11 (d := d_Wood_need_free) rfl
  obtain ⟨_, f12⟩ := c.t.d.def_ 12 (d := d_Wood_want) rfl
  obtain ⟨_, f13⟩ := c.t.d.def_ 13 (d := d_Wood_leave) rfl
  obtain ⟨_, f14⟩ := c.t.d.def_ 14 (d := d_Wood_call) rfl
  obtain ⟨_, f15⟩ := c.t.d.def_ 15 (d := d_Wood_back) rfl
  obtain ⟨_, f16⟩ := c.t.d.def_ 16 (d := d_Wood_turn_to) rfl
  obtain ⟨_, f17⟩ := c.t.d.def_ 17 (d := d_Wood_branch) rfl
  obtain ⟨_, f18⟩ := c.t.d.def_ 18 (d := d_Wood_way) rfl
  obtain ⟨_, f19⟩ := c.t.d.def_ 19 (d := d_Wood_put) rfl
  obtain ⟨_, f20⟩ := c.t.d.def_ 20 (d := d_Wood_copied) rfl
  obtain ⟨_, f21⟩ := c.t.d.def_ 21 (d := d_Wood_copies) rfl
  obtain ⟨_, f22⟩ := c.t.d.def_ 22 (d := d_Wood_places) rfl
  obtain ⟨_, f23⟩ := c.t.d.def_ 23 (d := d_Wood_calls) rfl
  obtain ⟨_, f24⟩ := c.t.d.def_ 24 (d := d_l_dice) rfl
  obtain ⟨_, f25⟩ := c.t.d.def_ 25 (d := d_l_next) rfl
  obtain ⟨_, f26⟩ := c.t.d.def_ 26 (d := d_l_told) rfl
  obtain ⟨_, f27⟩ := c.t.d.def_ 27 (d := d_law) rfl
  exact {
    n_len := He.free_ok X G (c.t.d.fact 0 (f := .free "len") rfl)
    n_dict := He.free_ok X G (c.t.d.fact 1 (f := .free "dict") rfl)
    g_rooms_of := He.glo_ok X G (c.t.d.fact 2 (f := .glo "rooms_of") rfl)
    g_top := He.glo_ok X G (c.t.d.fact 3 (f := .glo "top") rfl)
    n_list := He.free_ok X G (c.t.d.fact 4 (f := .free "list") rfl)
    i_MOST_HANDS := He.int_ok X G (c.t.d.fact 5 (f := .int "MOST_HANDS" 6) rfl)
    i_MOST_ROOMS := He.int_ok X G (c.t.d.fact 6 (f := .int "MOST_ROOMS" 40) rfl)
    g_BadWood := He.glo_ok X G (c.t.d.fact 7 (f := .glo "BadWood") rfl)
    n_range := He.free_ok X G (c.t.d.fact 8 (f := .free "range") rfl)
    g_NoHand := He.glo_ok X G (c.t.d.fact 9 (f := .glo "NoHand") rfl)
    n_min := He.free_ok X G (c.t.d.fact 10 (f := .free "min") rfl)
    g_NoRoom := He.glo_ok X G (c.t.d.fact 11 (f := .glo "NoRoom") rfl)
    i_MOST_VALUES := He.int_ok X G (c.t.d.fact 12 (f := .int "MOST_VALUES" 3) rfl)
    g_NoSlot := He.glo_ok X G (c.t.d.fact 13 (f := .glo "NoSlot") rfl)
    g_Frame := He.glo_ok X G (c.t.d.fact 14 (f := .glo "Frame") rfl)
    g_NoCall := He.glo_ok X G (c.t.d.fact 15 (f := .glo "NoCall") rfl)
    n_reversed := He.free_ok X G (c.t.d.fact 16 (f := .free "reversed") rfl)
    n_sorted := He.free_ok X G (c.t.d.fact 17 (f := .free "sorted") rfl)
    n_int := He.free_ok X G (c.t.d.fact 18 (f := .free "int") rfl)
    g_WoodError := He.glo_ok X G (c.t.d.fact 19 (f := .glo "WoodError") rfl)
    n_isinstance := He.free_ok X G (c.t.d.fact 20 (f := .free "isinstance") rfl)
    g__law_dice := He.glo_ok X G (c.t.d.fact 21 (f := .glo "_law_dice") rfl)
    g__law_next := He.glo_ok X G (c.t.d.fact 22 (f := .glo "_law_next") rfl)
    g_Wood := He.glo_ok X G (c.t.d.fact 23 (f := .glo "Wood") rfl)
    g__law_told := He.glo_ok X G (c.t.d.fact 24 (f := .glo "_law_told") rfl)
    g_held := He.glo_ok X G (c.t.d.fact 25 (f := .glo "held") rfl)
    n_sum := He.free_ok X G (c.t.d.fact 26 (f := .free "sum") rfl)
    n_set := He.free_ok X G (c.t.d.fact 27 (f := .free "set") rfl)
    g_common := He.glo_ok X G (c.t.d.fact 28 (f := .glo "common") rfl)
    g_used := He.glo_ok X G (c.t.d.fact 29 (f := .glo "used") rfl)
    g_law := He.glo_ok X G (c.t.d.fact 30 (f := .glo "law") rfl)
    x_BadWood := He.exc_ok (c.t.d.fact 31 (f := .exc "BadWood") rfl)
    xm_BadWood := He.exm_ok (c.t.d.fact 32 (f := .exm "BadWood" "WoodError" true) rfl)
    x_NoHand := He.exc_ok (c.t.d.fact 33 (f := .exc "NoHand") rfl)
    xm_NoHand := He.exm_ok (c.t.d.fact 34 (f := .exm "NoHand" "WoodError" true) rfl)
    x_NoCall := He.exc_ok (c.t.d.fact 35 (f := .exc "NoCall") rfl)
    xm_NoCall := He.exm_ok (c.t.d.fact 36 (f := .exm "NoCall" "WoodError" true) rfl)
    x_NoSlot := He.exc_ok (c.t.d.fact 37 (f := .exc "NoSlot") rfl)
    xm_NoSlot := He.exm_ok (c.t.d.fact 38 (f := .exm "NoSlot" "WoodError" true) rfl)
    x_NoRoom := He.exc_ok (c.t.d.fact 39 (f := .exc "NoRoom") rfl)
    xm_NoRoom := He.exm_ok (c.t.d.fact 40 (f := .exm "NoRoom" "WoodError" true) rfl)
    cl_Frame := He.cls_ok (c.t.d.fact 41 (f := .cls "Frame") rfl)
    mk_Frame := He.mkr_ok (c.t.d.fact 42 (f := .mkr "Frame") rfl)
    a_below := He.noat_ok (c.t.d.fact 43 (f := .noat "Frame" "below") rfl)
    a_slots := He.noat_ok (c.t.d.fact 44 (f := .noat "Frame" "slots") rfl)
    a_needs := He.noat_ok (c.t.d.fact 45 (f := .noat "Frame" "needs") rfl)
    cl_Wood := He.cls_ok (c.t.d.fact 46 (f := .cls "Wood") rfl)
    mk_Wood := He.mkr_ok (c.t.d.fact 47 (f := .mkr "Wood") rfl)
    a_rooms := He.noat_ok (c.t.d.fact 48 (f := .noat "Wood" "rooms") rfl)
    a_frames := He.noat_ok (c.t.d.fact 49 (f := .noat "Wood" "frames") rfl)
    a_tops := He.noat_ok (c.t.d.fact 50 (f := .noat "Wood" "tops") rfl)
    a_marks := He.noat_ok (c.t.d.fact 51 (f := .noat "Wood" "marks") rfl)
    a_many := He.noat_ok (c.t.d.fact 52 (f := .noat "Wood" "many") rfl)
    a_made := He.noat_ok (c.t.d.fact 53 (f := .noat "Wood" "made") rfl)
    m_need_hand := He.meth_ok (c.t.d.fact 54 (f := .meth "Wood" "need_hand") rfl)
    m_hands := He.meth_ok (c.t.d.fact 55 (f := .meth "Wood" "hands") rfl)
    m_path := He.meth_ok (c.t.d.fact 56 (f := .meth "Wood" "path") rfl)
    m_new_room := He.meth_ok (c.t.d.fact 57 (f := .meth "Wood" "new_room") rfl)
    m_need_free := He.meth_ok (c.t.d.fact 58 (f := .meth "Wood" "need_free") rfl)
    m_want := He.meth_ok (c.t.d.fact 59 (f := .meth "Wood" "want") rfl)
    m_leave := He.meth_ok (c.t.d.fact 60 (f := .meth "Wood" "leave") rfl)
    m_call := He.meth_ok (c.t.d.fact 61 (f := .meth "Wood" "call") rfl)
    m_back := He.meth_ok (c.t.d.fact 62 (f := .meth "Wood" "back") rfl)
    m_turn_to := He.meth_ok (c.t.d.fact 63 (f := .meth "Wood" "turn_to") rfl)
    m_branch := He.meth_ok (c.t.d.fact 64 (f := .meth "Wood" "branch") rfl)
    m_way := He.meth_ok (c.t.d.fact 65 (f := .meth "Wood" "way") rfl)
    m_put := He.meth_ok (c.t.d.fact 66 (f := .meth "Wood" "put") rfl)
    m_copied := He.meth_ok (c.t.d.fact 67 (f := .meth "Wood" "copied") rfl)
    m_copies := He.meth_ok (c.t.d.fact 68 (f := .meth "Wood" "copies") rfl)
    m_places := He.meth_ok (c.t.d.fact 69 (f := .meth "Wood" "places") rfl)
    m_calls := He.meth_ok (c.t.d.fact 70 (f := .meth "Wood" "calls") rfl)
    F_used := fnT_of f0
    F_rooms_of := fnT_of f1
    F_top := fnT_of f2
    F_held := fnT_of f3
    F_common := fnT_of f4
    F_Frame_init := fnT_of f5
    F_Wood_init := fnT_of f6
    F_Wood_need_hand := fnT_of f7
    F_Wood_hands := fnT_of f8
    F_Wood_path := fnT_of f9
    F_Wood_new_room := fnT_of f10
    F_Wood_need_free := fnT_of f11
    F_Wood_want := fnT_of f12
    F_Wood_leave := fnT_of f13
    F_Wood_call := fnT_of f14
    F_Wood_back := fnT_of f15
    F_Wood_turn_to := fnT_of f16
    F_Wood_branch := fnT_of f17
    F_Wood_way := fnT_of f18
    F_Wood_put := fnT_of f19
    F_Wood_copied := fnT_of f20
    F_Wood_copies := fnT_of f21
    F_Wood_places := fnT_of f22
    F_Wood_calls := fnT_of f23
    F_l_dice := fnT_of f24
    F_l_next := fnT_of f25
    F_l_told := fnT_of f26
    F_law := fnT_of f27
    exC := q1
    exV := q2
    exX := q3 }
theorem law_at {K : PySem.W.Frag} {h : Heap} {mg : Str → Option Value} {w : World} (X : K.In h) (G : h.Ns mainGlobals mg) (c : He.SaysX faL fnL [] tfL exK w h K) : LamX.LawAtS PySem.Challenge.rw_stackwood_k11_known_edges w K L2.CX0 9 63 "_law_script" mg (He.ga K "law") h := by
  have T := txt_of X G c
  have inT : ∀ p ∈ tfL.map (He.cT K), ∃ q ∈ tfL, He.cT K q = p := fun p hp => List.mem_map.mp hp
  refine ⟨fdOf K (aG K "law"), tfL.map (He.cT K), spLaw K (He.cT K ("law", none)).2, fun p hp => ?_, fun p hp => ?_, fun p hp => ?_, fun s u => ?_, fun H a ns hl _ hT hS => ?_, fun base hK hG hTB => ?_⟩
  · obtain ⟨q, hq, rfl⟩ := inT p hp
    exact c.empty q hq
  · obtain ⟨q, hq, rfl⟩ := inT p hp
    exact c.out q hq
  · obtain ⟨q, hq, rfl⟩ := inT p hp
    exact PySem.W.codeHd_of_K X (c.hd q hq)
  · exact FunD.bindsA (ps := ["_law_script"]) T.F_law (fun _ _ _ _ _ _ us hl => match us, hl with | [_], _ => rfl) s [u] rfl
  · exact ⟨a, ns, rfl, hS, hl, fun p hp => by
      have e : p = ((He.cT K ("law", none)).2, qLam) := List.mem_singleton.mp hp
      subst e
      exact LamX.TabS.nil (hT _ (List.mem_map.mpr ⟨_, List.mem_singleton.mpr rfl, rfl⟩)), fun _ => rfl⟩
  · exact ok_law T (hTB _ (List.mem_map.mpr ⟨_, List.mem_singleton.mpr rfl, rfl⟩))
end Sk
open PySem PySem.W PySem.Calls PyProof.Rows
theorem PySem.Challenge.cw_stackwood_k11_known_edges_holds : PySem.Challenge.rw_stackwood_k11_known_edges.Holds := by
  w_on; o_law
  refine HandSHeadRun.head_any (r := OpenLaw.row PySem.Challenge.rw_stackwood_k11_known_edges) (q := view (OpenLaw.row PySem.Challenge.rw_stackwood_k11_known_edges).prog [24]) (H := Sk.hk) (ob := Sk.ob) (M := 4000) (loose := Sk.looseL) (d := HandSHeadRun.topDef (OpenLaw.row PySem.Challenge.rw_stackwood_k11_known_edges).prog 24) (kwd := []) Sk.ob_eq
    (by kernel_rfl) (fun s => by kernel_rfl) Sk.run (by kernel_rfl) (by kernel_rfl) (by kernel_rfl) (by rfl) (by first | assumption | decide +kernel) (by decide +kernel) ⟨rfl, rfl, rfl, rfl, rfl, by decide +kernel⟩ ?hw ?hc
  case hw => w_witness2
  case hc =>
    refine LamX.walk_ofTsE (l := PySem.Challenge.rw_stackwood_k11_known_edges) (n := 63) (k := 9) (x := "_law_script") (CX := fun _ => L2.CX0) rfl (by decide) (by kernel_rfl) ⟨rfl, by decide, by decide⟩ ?F (fun _ _ _ _ _ z => z)
    intro w mg fa h Y G hmg0
    obtain ⟨K, KX, c⟩ := Y
    have hmg : mg ("law" : PySem.Str) = some (.ref fa) := by
      have e : (HandSHeadRun.topDef (OpenLaw.row PySem.Challenge.rw_stackwood_k11_known_edges).prog 24).name = ("law" : PySem.Str) := by kernel_rfl
      rw [← e]
      exact hmg0
    have T := Sk.txt_of KX G c
    have e := hmg.symm.trans T.g_law
    cases e
    exact ⟨K, KX, Sk.law_at KX G c⟩
end
