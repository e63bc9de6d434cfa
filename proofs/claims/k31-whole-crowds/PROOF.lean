import PyProof.Rows.All
import Wide.All
import OpenK.AllK
import Wide.FinOn
import HandS.ForMost
import HandS.ForExc
import HandS.Walk
import HandS.Evl
import HandS.Steps
import HandS.Conv
import HandS.Codes
import HandS.Defaults
import HandS.Star
import HandS.MethStar
import HandS.MakeKw
import HandS.MakeKwOnly
import HandS.Property
import HandS.ClsMeth
import HandS.IsInst
import HandS.ExcInit
import HandS.ExcField
import HandS.ExcSuper
import HandS.TryMany
import HandS.DictComp
import HandS.DictEq
import HandS.Deep
import HandS.DeepEq
import HandS.Strs
import HandS.SetFor
import HandS.TupAny
import HandS.TupLe
import HandS.Style
import HandS.Wide
import HandS.WideBits
import HandS.Small
import HandS.Sort
import HandS.SortInts
import HandS.Remove
import HandS.RaiseMore
import HandS.RaiseOp
import HandS.CallSlots
import HandS.EndBits
import HandS.HeadEnd
import HandS.HeadHook1
import HandS.HeadHook2
import HandS.HeadHook3
import HandS.HeadHook4
import KE.KSuper
import HandS.Nested
import HandS.ExcOwn
import KE.KStateDown
import HandS.Head0
import HandS.Head1
import HandS.Head2
import KE.GoesMore
import KE.DataMinMax
import PySem.Challenge.RW_flagtrees_k31_whole_crowds
set_option Elab.async false
set_option linter.all false
set_option maxRecDepth 100000
set_option maxHeartbeats 4000000
/-! The places of the text, and what the top must have left. -/
namespace K31
open PySem PySem.Spec PyProof.Rows L2 He
def top (i : Nat) : Stmt := PySem.Challenge.pw_flagtrees_k31_whole_crowds.main.body.getD i (.Pass ⟨0, 0, 0, 0⟩)
abbrev sis_name : Stmt := top 14
abbrev sis_ancestor : Stmt := top 15
abbrev sneed_parents : Stmt := top 16
abbrev spath_in : Stmt := top 18
abbrev spath_difference : Stmt := top 19
abbrev splaces_of : Stmt := top 20
abbrev sis_integer : Stmt := top 24
abbrev sneed_feasible : Stmt := top 25
abbrev sresidents_of : Stmt := top 26
abbrev sneed_pins : Stmt := top 39
abbrev scosts_of : Stmt := top 40
abbrev scheapest : Stmt := top 42
abbrev sasked : Stmt := top 43
abbrev stransfer : Stmt := top 44
abbrev sis_crowd : Stmt := top 45
abbrev s_law_begin : Stmt := top 47
abbrev s_law_take : Stmt := top 48
abbrev s_law_pick : Stmt := top 49
abbrev s_law_mixed : Stmt := top 50
abbrev s_law_names : Stmt := top 51
abbrev s_law_parents : Stmt := top 52
abbrev s_law_path : Stmt := top 53
abbrev s_law_places : Stmt := top 54
abbrev s_law_spots : Stmt := top 55
abbrev s_law_sizes : Stmt := top 56
abbrev s_law_rooms : Stmt := top 57
abbrev s_law_allows : Stmt := top 58
abbrev s_law_apart : Stmt := top 59
abbrev s_law_costs : Stmt := top 60
abbrev s_law_too_many : Stmt := top 62
abbrev s_law_tolds : Stmt := top 63
abbrev s_law_pin : Stmt := top 64
abbrev s_law_transfer : Stmt := top 65
abbrev s_law_found : Stmt := top 66
abbrev s_law_is_crowd : Stmt := top 67
abbrev s_law_sets : Stmt := top 68
abbrev s_law_due : Stmt := top 69
abbrev s_law_bent : Stmt := top 70
abbrev s_law_drawn : Stmt := top 71
abbrev slaw : Stmt := top 72
abbrev mForest_init : Stmt := inClass (top 17) 2
abbrev mForest_flags : Stmt := inClass (top 17) 4
abbrev mForest_parents : Stmt := inClass (top 17) 5
abbrev mAssignment_init : Stmt := inClass (top 29) 1
abbrev mAssignment_forest : Stmt := inClass (top 29) 3
abbrev mAssignment_places : Stmt := inClass (top 29) 4
abbrev mAssignment_total : Stmt := inClass (top 29) 5
abbrev mPin_init : Stmt := inClass (top 33) 0
abbrev mMust_allows : Stmt := inClass (top 34) 2
abbrev mNever_allows : Stmt := inClass (top 35) 2
abbrev mStay_allows : Stmt := inClass (top 36) 1
abbrev mTransfer_init : Stmt := inClass (top 38) 0
abbrev mMarket_init : Stmt := inClass (top 41) 0
abbrev mMarket_users_at : Stmt := inClass (top 41) 1
abbrev mMarket_extra : Stmt := inClass (top 41) 2
abbrev mMarket_ways : Stmt := inClass (top 41) 3
abbrev mMarket_enter : Stmt := inClass (top 41) 4
abbrev mMarket_priced : Stmt := inClass (top 41) 5
abbrev mCrowded_init : Stmt := inClass (top 10) 0
/-- a def of the text as it stands behind the top -/
abbrev FnP (K : PySem.W.Frag) (x qual : Str) (st : Stmt) (kws : List (Str × V)) (f : Addr) : Prop := ∃ fd : FuncData, FunD K x qual (defArgs st) (defBody st) (defScope st) [] kws f fd
/-- what isinstance asks of an own class -/
structure InsD (K : PySem.W.Frag) (C : Addr) : Prop where
  cl : Cls K C
  ha : PySem.W.findIn K (.ref C) "__class__" = some (some (.builtin "object.__class__"))
  hn : PySem.W.specialIn K (.builtin "object.__class__") "__get__" = some (some (.builtin "getset_descriptor.__get__"))
  htk : PySem.W.takesIn K (.builtin "object.__class__") = some true
  hm : PySem.W.mroIn K C (.type "object") = some true
/-- a property's getter -/
def prA (K : PySem.W.Frag) (C : Addr) (f : Str) : Addr := match PySem.W.findIn K (.ref C) f with
  | some (some (.ref p)) => (match PySem.W.recIn K p "property" with
    | some (.ref g :: _) => g
    | _ => 0)
  | _ => 0
structure Txt (K : PySem.W.Frag) (mg : Str → Option Value) : Prop where
  g_is_name : mg "is_name" = some (.ref (ga K "is_name"))
  f_is_name : FnP K "is_name" "is_name" sis_name [] (ga K "is_name")
  g_is_ancestor : mg "is_ancestor" = some (.ref (ga K "is_ancestor"))
  f_is_ancestor : FnP K "is_ancestor" "is_ancestor" sis_ancestor [] (ga K "is_ancestor")
  g_need_parents : mg "need_parents" = some (.ref (ga K "need_parents"))
  f_need_parents : FnP K "need_parents" "need_parents" sneed_parents [] (ga K "need_parents")
  g_path_in : mg "path_in" = some (.ref (ga K "path_in"))
  f_path_in : FnP K "path_in" "path_in" spath_in [] (ga K "path_in")
  g_path_difference : mg "path_difference" = some (.ref (ga K "path_difference"))
  f_path_difference : FnP K "path_difference" "path_difference" spath_difference [] (ga K "path_difference")
  g_places_of : mg "places_of" = some (.ref (ga K "places_of"))
  f_places_of : FnP K "places_of" "places_of" splaces_of [] (ga K "places_of")
  g_is_integer : mg "is_integer" = some (.ref (ga K "is_integer"))
  f_is_integer : FnP K "is_integer" "is_integer" sis_integer [] (ga K "is_integer")
  g_need_feasible : mg "need_feasible" = some (.ref (ga K "need_feasible"))
  f_need_feasible : FnP K "need_feasible" "need_feasible" sneed_feasible [] (ga K "need_feasible")
  g_residents_of : mg "residents_of" = some (.ref (ga K "residents_of"))
  f_residents_of : FnP K "residents_of" "residents_of" sresidents_of [] (ga K "residents_of")
  g_need_pins : mg "need_pins" = some (.ref (ga K "need_pins"))
  f_need_pins : FnP K "need_pins" "need_pins" sneed_pins [] (ga K "need_pins")
  g_costs_of : mg "costs_of" = some (.ref (ga K "costs_of"))
  f_costs_of : FnP K "costs_of" "costs_of" scosts_of [] (ga K "costs_of")
  g_cheapest : mg "cheapest" = some (.ref (ga K "cheapest"))
  f_cheapest : FnP K "cheapest" "cheapest" scheapest [] (ga K "cheapest")
  g_asked : mg "asked" = some (.ref (ga K "asked"))
  f_asked : FnP K "asked" "asked" sasked [] (ga K "asked")
  g_transfer : mg "transfer" = some (.ref (ga K "transfer"))
  f_transfer : FnP K "transfer" "transfer" stransfer [("forest", V.non)] (ga K "transfer")
  g_is_crowd : mg "is_crowd" = some (.ref (ga K "is_crowd"))
  f_is_crowd : FnP K "is_crowd" "is_crowd" sis_crowd [("forest", V.non)] (ga K "is_crowd")
  g__law_begin : mg "_law_begin" = some (.ref (ga K "_law_begin"))
  f__law_begin : FnP K "_law_begin" "_law_begin" s_law_begin [] (ga K "_law_begin")
  g__law_take : mg "_law_take" = some (.ref (ga K "_law_take"))
  f__law_take : FnP K "_law_take" "_law_take" s_law_take [] (ga K "_law_take")
  g__law_pick : mg "_law_pick" = some (.ref (ga K "_law_pick"))
  f__law_pick : FnP K "_law_pick" "_law_pick" s_law_pick [] (ga K "_law_pick")
  g__law_mixed : mg "_law_mixed" = some (.ref (ga K "_law_mixed"))
  f__law_mixed : FnP K "_law_mixed" "_law_mixed" s_law_mixed [] (ga K "_law_mixed")
  g__law_names : mg "_law_names" = some (.ref (ga K "_law_names"))
  f__law_names : FnP K "_law_names" "_law_names" s_law_names [] (ga K "_law_names")
  g__law_parents : mg "_law_parents" = some (.ref (ga K "_law_parents"))
  f__law_parents : FnP K "_law_parents" "_law_parents" s_law_parents [] (ga K "_law_parents")
  g__law_path : mg "_law_path" = some (.ref (ga K "_law_path"))
  f__law_path : FnP K "_law_path" "_law_path" s_law_path [] (ga K "_law_path")
  g__law_places : mg "_law_places" = some (.ref (ga K "_law_places"))
  f__law_places : FnP K "_law_places" "_law_places" s_law_places [] (ga K "_law_places")
  g__law_spots : mg "_law_spots" = some (.ref (ga K "_law_spots"))
  f__law_spots : FnP K "_law_spots" "_law_spots" s_law_spots [] (ga K "_law_spots")
  g__law_sizes : mg "_law_sizes" = some (.ref (ga K "_law_sizes"))
  f__law_sizes : FnP K "_law_sizes" "_law_sizes" s_law_sizes [] (ga K "_law_sizes")
  g__law_rooms : mg "_law_rooms" = some (.ref (ga K "_law_rooms"))
  f__law_rooms : FnP K "_law_rooms" "_law_rooms" s_law_rooms [] (ga K "_law_rooms")
  g__law_allows : mg "_law_allows" = some (.ref (ga K "_law_allows"))
  f__law_allows : FnP K "_law_allows" "_law_allows" s_law_allows [] (ga K "_law_allows")
  g__law_apart : mg "_law_apart" = some (.ref (ga K "_law_apart"))
  f__law_apart : FnP K "_law_apart" "_law_apart" s_law_apart [] (ga K "_law_apart")
  g__law_costs : mg "_law_costs" = some (.ref (ga K "_law_costs"))
  f__law_costs : FnP K "_law_costs" "_law_costs" s_law_costs [] (ga K "_law_costs")
  g__law_too_many : mg "_law_too_many" = some (.ref (ga K "_law_too_many"))
  f__law_too_many : FnP K "_law_too_many" "_law_too_many" s_law_too_many [] (ga K "_law_too_many")
  g__law_tolds : mg "_law_tolds" = some (.ref (ga K "_law_tolds"))
  f__law_tolds : FnP K "_law_tolds" "_law_tolds" s_law_tolds [] (ga K "_law_tolds")
  g__law_pin : mg "_law_pin" = some (.ref (ga K "_law_pin"))
  f__law_pin : FnP K "_law_pin" "_law_pin" s_law_pin [] (ga K "_law_pin")
  g__law_transfer : mg "_law_transfer" = some (.ref (ga K "_law_transfer"))
  f__law_transfer : FnP K "_law_transfer" "_law_transfer" s_law_transfer [] (ga K "_law_transfer")
  g__law_found : mg "_law_found" = some (.ref (ga K "_law_found"))
  f__law_found : FnP K "_law_found" "_law_found" s_law_found [] (ga K "_law_found")
  g__law_is_crowd : mg "_law_is_crowd" = some (.ref (ga K "_law_is_crowd"))
  f__law_is_crowd : FnP K "_law_is_crowd" "_law_is_crowd" s_law_is_crowd [] (ga K "_law_is_crowd")
  g__law_sets : mg "_law_sets" = some (.ref (ga K "_law_sets"))
  f__law_sets : FnP K "_law_sets" "_law_sets" s_law_sets [] (ga K "_law_sets")
  g__law_due : mg "_law_due" = some (.ref (ga K "_law_due"))
  f__law_due : FnP K "_law_due" "_law_due" s_law_due [] (ga K "_law_due")
  g__law_bent : mg "_law_bent" = some (.ref (ga K "_law_bent"))
  f__law_bent : FnP K "_law_bent" "_law_bent" s_law_bent [] (ga K "_law_bent")
  g__law_drawn : mg "_law_drawn" = some (.ref (ga K "_law_drawn"))
  f__law_drawn : FnP K "_law_drawn" "_law_drawn" s_law_drawn [] (ga K "_law_drawn")
  g_Forest : mg "Forest" = some (.ref (ga K "Forest"))
  g_Assignment : mg "Assignment" = some (.ref (ga K "Assignment"))
  g_Pin : mg "Pin" = some (.ref (ga K "Pin"))
  g_Must : mg "Must" = some (.ref (ga K "Must"))
  g_Never : mg "Never" = some (.ref (ga K "Never"))
  g_Stay : mg "Stay" = some (.ref (ga K "Stay"))
  g_Transfer : mg "Transfer" = some (.ref (ga K "Transfer"))
  g_Market : mg "Market" = some (.ref (ga K "Market"))
  g_Crowded : mg "Crowded" = some (.ref (ga K "Crowded"))
  g_RolloutError : mg "RolloutError" = some (.ref (ga K "RolloutError"))
  n_isinstance : mg "isinstance" = none
  n_len : mg "len" = none
  n_all : mg "all" = none
  n_any : mg "any" = none
  n_sorted : mg "sorted" = none
  n_set : mg "set" = none
  n_list : mg "list" = none
  n_tuple : mg "tuple" = none
  n_dict : mg "dict" = none
  n_range : mg "range" = none
  n_enumerate : mg "enumerate" = none
  n_min : mg "min" = none
  n_sum : mg "sum" = none
  n_int : mg "int" = none
  n_bool : mg "bool" = none
  n_str : mg "str" = none
  n_abs : mg "abs" = none
  n_repr : mg "repr" = none
  n_super : mg "super" = none
  n_ValueError : mg "ValueError" = none
  c_Forest : Cls K (ga K "Forest")
  c_Assignment : Cls K (ga K "Assignment")
  c_Pin : Cls K (ga K "Pin")
  c_Must : Cls K (ga K "Must")
  c_Never : Cls K (ga K "Never")
  c_Stay : Cls K (ga K "Stay")
  c_Transfer : Cls K (ga K "Transfer")
  c_Market : Cls K (ga K "Market")
  f_Forest_init : FnP K "__init__" "Forest.__init__" mForest_init [] (ma K (ga K "Forest") "__init__")
  f_Forest_flags : FnP K "flags" "Forest.flags" mForest_flags [] (prA K (ga K "Forest") "flags")
  f_Forest_parents : FnP K "parents" "Forest.parents" mForest_parents [] (prA K (ga K "Forest") "parents")
  f_Assignment_init : FnP K "__init__" "Assignment.__init__" mAssignment_init [] (ma K (ga K "Assignment") "__init__")
  f_Assignment_forest : FnP K "forest" "Assignment.forest" mAssignment_forest [] (prA K (ga K "Assignment") "forest")
  f_Assignment_places : FnP K "places" "Assignment.places" mAssignment_places [] (prA K (ga K "Assignment") "places")
  f_Assignment_total : FnP K "total" "Assignment.total" mAssignment_total [] (prA K (ga K "Assignment") "total")
  f_Pin_init : FnP K "__init__" "Pin.__init__" mPin_init [] (ma K (ga K "Pin") "__init__")
  f_Must_allows : FnP K "allows" "Must.allows" mMust_allows [] (ma K (ga K "Must") "allows")
  f_Never_allows : FnP K "allows" "Never.allows" mNever_allows [] (ma K (ga K "Never") "allows")
  f_Stay_allows : FnP K "allows" "Stay.allows" mStay_allows [] (ma K (ga K "Stay") "allows")
  f_Transfer_init : FnP K "__init__" "Transfer.__init__" mTransfer_init [] (ma K (ga K "Transfer") "__init__")
  f_Market_init : FnP K "__init__" "Market.__init__" mMarket_init [] (ma K (ga K "Market") "__init__")
  f_Market_users_at : FnP K "users_at" "Market.users_at" mMarket_users_at [] (ma K (ga K "Market") "users_at")
  f_Market_extra : FnP K "extra" "Market.extra" mMarket_extra [] (ma K (ga K "Market") "extra")
  f_Market_ways : FnP K "ways" "Market.ways" mMarket_ways [] (ma K (ga K "Market") "ways")
  f_Market_enter : FnP K "enter" "Market.enter" mMarket_enter [] (ma K (ga K "Market") "enter")
  f_Market_priced : FnP K "priced" "Market.priced" mMarket_priced [] (ma K (ga K "Market") "priced")
  f_Crowded_init : FnP K "__init__" "Crowded.__init__" mCrowded_init [] (ma K (ga K "Crowded") "__init__")
  a_Forest_above : NoAttr K (ga K "Forest") "above"
  a_Assignment_own_forest : NoAttr K (ga K "Assignment") "own_forest"
  a_Assignment_own_places : NoAttr K (ga K "Assignment") "own_places"
  a_Must_who : NoAttr K (ga K "Must") "who"
  a_Must_wanted_flag : NoAttr K (ga K "Must") "wanted_flag"
  a_Never_who : NoAttr K (ga K "Never") "who"
  a_Never_barred_flag : NoAttr K (ga K "Never") "barred_flag"
  a_Stay_who : NoAttr K (ga K "Stay") "who"
  a_Pin_who : NoAttr K (ga K "Pin") "who"
  a_Transfer_cost : NoAttr K (ga K "Transfer") "cost"
  a_Transfer_reached : NoAttr K (ga K "Transfer") "reached"
  a_Transfer_price_of : NoAttr K (ga K "Transfer") "price_of"
  a_Market_costs : NoAttr K (ga K "Market") "costs"
  a_Market_rooms : NoAttr K (ga K "Market") "rooms"
  a_Market_given : NoAttr K (ga K "Market") "given"
  k_Forest : Mk K (ga K "Forest") (ma K (ga K "Forest") "__init__")
  k_Assignment : Mk K (ga K "Assignment") (ma K (ga K "Assignment") "__init__")
  k_Transfer : Mk K (ga K "Transfer") (ma K (ga K "Transfer") "__init__")
  k_Market : Mk K (ga K "Market") (ma K (ga K "Market") "__init__")
  k_Must : Mk K (ga K "Must") (ma K (ga K "Must") "__init__")
  k_Never : Mk K (ga K "Never") (ma K (ga K "Never") "__init__")
  k_Stay : Mk K (ga K "Stay") (ma K (ga K "Pin") "__init__")
  m_Market_users_at : Meth K (ga K "Market") "users_at" (ma K (ga K "Market") "users_at")
  m_Market_extra : Meth K (ga K "Market") "extra" (ma K (ga K "Market") "extra")
  m_Market_ways : Meth K (ga K "Market") "ways" (ma K (ga K "Market") "ways")
  m_Market_enter : Meth K (ga K "Market") "enter" (ma K (ga K "Market") "enter")
  m_Market_priced : Meth K (ga K "Market") "priced" (ma K (ga K "Market") "priced")
  m_Must_allows : Meth K (ga K "Must") "allows" (ma K (ga K "Must") "allows")
  m_Never_allows : Meth K (ga K "Never") "allows" (ma K (ga K "Never") "allows")
  m_Stay_allows : Meth K (ga K "Stay") "allows" (ma K (ga K "Stay") "allows")
  p_Forest_flags : ∃ p, PropOf K (ga K "Forest") "flags" p (prA K (ga K "Forest") "flags")
  p_Forest_parents : ∃ p, PropOf K (ga K "Forest") "parents" p (prA K (ga K "Forest") "parents")
  p_Assignment_forest : ∃ p, PropOf K (ga K "Assignment") "forest" p (prA K (ga K "Assignment") "forest")
  p_Assignment_places : ∃ p, PropOf K (ga K "Assignment") "places" p (prA K (ga K "Assignment") "places")
  p_Assignment_total : ∃ p, PropOf K (ga K "Assignment") "total" p (prA K (ga K "Assignment") "total")
  i_Must : InsD K (ga K "Must")
  i_Never : InsD K (ga K "Never")
  i_Stay : InsD K (ga K "Stay")
  i_Transfer : InsD K (ga K "Transfer")
  isP_Must : PySem.W.kitOne K (.ref (ga K "Must")) (.ref (ga K "Pin")) = some true
  isP_Never : PySem.W.kitOne K (.ref (ga K "Never")) (.ref (ga K "Pin")) = some true
  isP_Stay : PySem.W.kitOne K (.ref (ga K "Stay")) (.ref (ga K "Pin")) = some true
  isT : PySem.W.kitOne K (.ref (ga K "Transfer")) (.type "tuple") = some false
  v_Forest_ROOT : ClX.CRead K (ga K "Forest") (.type "type") ∧ ∃ u, ClX.CVal K (ga K "Forest") (.type "type") "ROOT" (.str "") u
  v_Forest_MOST : ClX.CRead K (ga K "Forest") (.type "type") ∧ ∃ u, ClX.CVal K (ga K "Forest") (.type "type") "MOST" (.int 12) u
  v_Assignment_MOST : ClX.CRead K (ga K "Assignment") (.type "type") ∧ ∃ u, ClX.CVal K (ga K "Assignment") (.type "type") "MOST" (.int 60) u
  longest : ∃ u, mg "LONGEST" = some u ∧ RelV (.int 8) u
  letters : ∃ u, mg "LETTERS" = some u ∧ RelV (.str "abcdefghijklmnopqrstuvwxyz") u
  x_Crowded : OexC K (ga K "Crowded")
  xi_Crowded : PySem.W.findIn K (.ref (ga K "Crowded")) "__init__" = some (some (.ref (ma K (ga K "Crowded") "__init__")))
  xt_Crowded : PySem.W.typeIn K (.ref (ma K (ga K "Crowded") "__init__")) = some (.type "function")
  xn_Crowded : PySem.W.findIn K (.ref (ga K "Crowded")) "users" = some none
  xf_Crowded : XfC K (ga K "Crowded")
  xm_Crowded : PySem.W.exmOne K (.ref (ga K "Crowded")) (.ref (ga K "Crowded")) = some true
  rr_RE : ClX.CRead K (ga K "RolloutError") (.type "type")
  ri_RE : PySem.W.findCls K (.ref (ga K "RolloutError")) (.type "type") "__init__" = some (.val (.builtin "ValueError.__init__"))
end K31
set_option Elab.async false
set_option linter.all false
set_option maxRecDepth 100000
set_option maxHeartbeats 4000000
/-! What the head is looked at for: each fact a Bool over the written part. -/
namespace K31
open PySem PySem.Spec PyProof.Rows L2 He NdefX ClX
/-! ### single looks -/
def propB (K : PySem.W.Frag) (C : Addr) (f : Str) : Bool :=
  match PySem.W.findIn K (.ref C) f with
  | some (some (.ref p)) => eqO (PySem.W.specialIn K (.ref p) "__get__") (some (some (.builtin "property.__get__"))) && (decide (PySem.W.takesIn K (.ref p) = some true) && (match PySem.W.recIn K p "property" with
      | some (.ref _ :: _) => true
      | _ => false))
  | _ => false
theorem propB_ok {K : PySem.W.Frag} {C : Addr} {f : Str} (h : propB K C f = true) : ∃ p, PropOf K C f p (prA K C f) := by
  unfold propB at h
  split at h
  · rename_i p e
    obtain ⟨h1, h2⟩ := ba h
    obtain ⟨h2, h3⟩ := ba h2
    split at h3
    · rename_i g rest er
      refine ⟨p, e, eqO_ok h1, of_decide_eq_true h2, rest, ?_⟩
      unfold prA
      rw [e]
      dsimp only
      rw [er]
    · cases h3
  · cases h
def insB (K : PySem.W.Frag) (C : Addr) : Bool :=
  eqO (PySem.W.findIn K (.ref C) "__class__") (some (some (.builtin "object.__class__"))) && (eqO (PySem.W.specialIn K (.builtin "object.__class__") "__get__") (some (some (.builtin "getset_descriptor.__get__"))) && (decide (PySem.W.takesIn K (.builtin "object.__class__") = some true) && decide (PySem.W.mroIn K C (.type "object") = some true)))
theorem insB_ok {K : PySem.W.Frag} {C : Addr} (c : Cls K C) (h : insB K C = true) : InsD K C := by
  obtain ⟨h1, h⟩ := ba h
  obtain ⟨h2, h⟩ := ba h
  obtain ⟨h3, h4⟩ := ba h
  exact ⟨c, eqO_ok h1, eqO_ok h2, of_decide_eq_true h3, of_decide_eq_true h4⟩
def readB (K : PySem.W.Frag) (C : Addr) : Bool := PySem.W.readsIn K C (.type "type") && eqO (PySem.W.specialIn K (.ref C) "__getattribute__") (some (some (.builtin "type.__getattribute__")))
theorem readB_ok {K : PySem.W.Frag} {C : Addr} (h : readB K C = true) : CRead K C (.type "type") := by
  obtain ⟨h1, h2⟩ := ba h
  exact ⟨h1, eqO_ok h2⟩
def cvalB (K : PySem.W.Frag) (C : Addr) (f : Str) (v : V) : Bool :=
  match PySem.W.findCls K (.ref C) (.type "type") f with
  | some (.val u) => relB v u
  | _ => false
theorem cvalB_ok {K : PySem.W.Frag} {C : Addr} {f : Str} {v : V} (h : cvalB K C f v = true) : ∃ u, CVal K C (.type "type") f v u := by
  unfold cvalB at h
  split at h
  · rename_i u e
    exact ⟨u, e, relB_ok h⟩
  · cases h
def cbltB (K : PySem.W.Frag) (C : Addr) (f : Str) (i : String) : Bool :=
  match PySem.W.findCls K (.ref C) (.type "type") f with
  | some (.val (.builtin j)) => decide (j = i)
  | _ => false
theorem cbltB_ok {K : PySem.W.Frag} {C : Addr} {f : Str} {i : String} (h : cbltB K C f i = true) : PySem.W.findCls K (.ref C) (.type "type") f = some (.val (.builtin i)) := by
  unfold cbltB at h
  split at h
  · rename_i j e
    rw [e, of_decide_eq_true h]
  · cases h
def oexB (K : PySem.W.Frag) (C : Addr) : Bool :=
  (match K.lookup C with
    | some ⟨.type t, _, .cls cd, sl⟩ => (match cd.mro, sl.toList with
      | .ref D :: bm, [_, _, _, _, some (.builtin n), _] => decide (t = "type") && (decide (D = C) && (decide (n = "ValueError.__new__") && (!cd.hasDel && (cd.hasDict && PySem.HandSPX.refsVE bm))))
      | _, _ => false)
    | _ => false) && (eqO (PySem.W.findIn K (.ref C) "__setattr__") (some (some (.builtin "object.__setattr__"))) && (decide (PySem.W.subIn K (.ref C) (.type "BaseException") = some true) && (decide (PySem.W.typeIn K (.ref C) = some (.type "type")) && PySem.W.keepIn K (.ref C))))
theorem oexB_ok {K : PySem.W.Frag} {C : Addr} (h : oexB K C = true) : OexC K C := by
  obtain ⟨h1, h⟩ := ba h
  obtain ⟨h2, h⟩ := ba h
  obtain ⟨h3, h⟩ := ba h
  obtain ⟨h4, h5⟩ := ba h
  refine ⟨?_, eqO_ok h2, of_decide_eq_true h3, of_decide_eq_true h4, h5⟩
  split at h1
  · rename_i t dd cd sl ho
    split at h1
    · rename_i D bm k0 k1 k2 k3 n k5 hm hs
      obtain ⟨a1, h1⟩ := ba h1
      obtain ⟨a2, h1⟩ := ba h1
      obtain ⟨a3, h1⟩ := ba h1
      obtain ⟨a4, h1⟩ := ba h1
      obtain ⟨a5, a6⟩ := ba h1
      obtain ⟨nm, bs, mro, ns, qn, hd, sn, sub, ab, col, del⟩ := cd
      dsimp only at hm a4 a5
      have b1 := of_decide_eq_true a1
      have b2 := of_decide_eq_true a2
      have b3 := of_decide_eq_true a3
      have b4 : del = false := by simpa using a4
      subst hm b1 b2 b3 b4 a5
      have hsl : sl = #[k0, k1, k2, k3, some (.builtin "ValueError.__new__"), k5] := by
        obtain ⟨l⟩ := sl
        simp only at hs
        rw [hs]
      subst hsl
      exact ⟨nm, qn, ns, bs, bm, sn, sub, ab, col, dd, k0, k1, k2, k3, k5, ho, a6⟩
    · cases h1
  · cases h1
/-! ### a fact, by kind -/
inductive Fk where
  | fa (f : Fa)
  | prop (C f : Str)
  | ins (C : Str)
  | kit (x : Str) (t : PySem.W.Frag → Value) (b : Bool)
  | read (C : Str)
  | cval (C f : Str) (v : V)
  | cblt (C f : Str) (i : String)
  | same (C D m : Str)
  | oex (C : Str)
  | xf (C : Str)
  | ini (C : Str)
def Fk.ok (K : PySem.W.Frag) : Fk → Bool
  | .fa f => f.ok K
  | .prop C f => propB K (ga K C) f
  | .ins C => insB K (ga K C)
  | .kit x t b => decide (PySem.W.kitOne K (.ref (ga K x)) (t K) = some b)
  | .read C => readB K (ga K C)
  | .cval C f v => cvalB K (ga K C) f v
  | .cblt C f i => cbltB K (ga K C) f i
  | .same C D m => decide (ma K (ga K C) m = ma K (ga K D) m)
  | .oex C => oexB K (ga K C)
  | .xf C => xfB K (ga K C)
  | .ini C => eqO (PySem.W.findIn K (.ref (ga K C)) "__init__") (some (some (.ref (ma K (ga K C) "__init__")))) && decide (PySem.W.typeIn K (.ref (ma K (ga K C) "__init__")) = some (.type "function"))
/-! ### a def, wherever it stands -/
structure DX where
  ad : PySem.W.Frag → Addr
  nm : Str
  ql : Str
  st : Stmt
  kw : List (Str × V)
  cl : List Str
abbrev DV : Type := Option (Str × Str × Arguments × FuncBody × Scope × Addr × List Str × Addr)
def DX.say (d : DX) : DV := some (d.nm, d.ql, defArgs d.st, FuncBody.stmts (defBody d.st), defScope d.st, mainGlobals, d.cl, builtinsNs)
def funAt (K : PySem.W.Frag) (a : Addr) : Option FuncData :=
  match K.lookup a with
  | some ⟨_, _, .func u, _⟩ => some u
  | _ => none
theorem funAt_ok {K : PySem.W.Frag} {a : Addr} {u : FuncData} (h : funAt K a = some u) : ∃ oc od osl, K.lookup a = some ⟨oc, od, .func u, osl⟩ := by
  unfold funAt at h
  split at h
  · rename_i oc od u' osl e
    cases h
    exact ⟨oc, od, osl, e⟩
  · cases h
def seen (K : PySem.W.Frag) (a : Addr) : DV := (funAt K a).map fun u => (u.name, u.qualname, u.params, u.body, u.scope, u.globals, u.closure.map (·.1), u.builtins)
def isNoneV : Value → Bool
  | .none => true
  | _ => false
theorem isNoneV_ok {v : Value} (h : isNoneV v = true) : v = .none := by
  cases v with
  | none => rfl
  | _ => cases h
def DX.good (K : PySem.W.Frag) (d : DX) : Bool := PySem.W.keepIn K (.ref (d.ad K)) && (match funAt K (d.ad K) with
  | some u => PySem.W.codeIn K u.code d.ql && (isNoneV u.defaults && kwdB K u.kwdefaults d.kw)
  | none => false)
theorem seen_ok {K : PySem.W.Frag} {d : DX} (e : seen K (d.ad K) = d.say) : ∃ dV kV doc pm an cdv ct cls, funAt K (d.ad K) = some (PySem.W.fnX d.nm d.ql (defArgs d.st) (defBody d.st) (defScope d.st) cls dV kV doc pm an cdv ct) ∧ cls.map (·.1) = d.cl := by
  unfold seen at e
  obtain ⟨u, h1, h2⟩ := Option.map_eq_some_iff.mp e
  obtain ⟨u1, u2, u3, u4, u5, u6, u7, u8, u9, u10, u11, u12, u13, u14, u15⟩ := u
  simp only [Prod.mk.injEq] at h2
  obtain ⟨g1, g2, g3, g4, g5, g6, g7, g8⟩ := h2
  subst g1 g2 g3 g4 g5 g6 g8
  exact ⟨u8, u9, u10, u11, u12, u13, u14, u7, h1, g7⟩
theorem DX.fun_ {K : PySem.W.Frag} {d : DX} (hcl : d.cl = []) (e : seen K (d.ad K) = d.say) (c : d.good K = true) : ∃ fd, FunD K d.nm d.ql (defArgs d.st) (defBody d.st) (defScope d.st) [] d.kw (d.ad K) fd := by
  obtain ⟨dV, kV, doc, pm, an, cdv, ct, cls, h, hc⟩ := seen_ok e
  obtain ⟨kp, c⟩ := ba c
  rw [h] at c
  obtain ⟨c1, c⟩ := ba c
  obtain ⟨c2, c3⟩ := ba c
  obtain ⟨oc, od, osl, lk⟩ := funAt_ok h
  rw [hcl] at hc
  obtain rfl : cls = [] := List.map_eq_nil_iff.mp hc
  exact ⟨_, ⟨oc, od, dV, kV, doc, pm, an, cdv, ct, osl, rfl, lk, c1, .inl ⟨rfl, isNoneV_ok c2⟩, kwdB_ok c3⟩, kp⟩
/-! ### an __init__ that says super() -/
def supB (file : Str) (K : PySem.W.Frag) (x : Str) (g : Addr) (ql : Str) : Bool :=
  (match funAt K (ma K (ga K x) "__init__") with
    | some u => PySem.W.codeIn K u.code ql && (isNoneV u.defaults && (isNoneV u.kwdefaults && (u.annotations.isNone && ((match u.code with
      | .ref c => (match K.lookup c with
        | some ⟨_, _, .fields vs, _⟩ => (match (vs[2]? : Option Value) with
          | some (.str z _) => file == z
          | _ => false)
        | _ => false)
      | _ => false) && (match u.closure with
      | [(_, cc)] => (match K.lookup cc with
        | some ⟨_, _, .cell (some (.ref D)), _⟩ => decide (D = ga K x)
        | _ => false)
      | _ => false)))))
    | none => false) && (PySem.W.isClsIn K (ga K x) && (decide (PySem.W.mroIn K (ga K x) (.ref (ga K x)) = some true) && (eqO (PySem.W.nsIn K PySem.cStatics "thirdparty.any") (some none) && (eqO (PySem.W.ks_superIn K (ga K x) (ga K x) "__init__") (some (some (.ref g))) && (decide (PySem.W.typeIn K (.ref g) = some (.type "function")) && PySem.W.fnIn K g)))))
/-! ### the look, as a Hook -/
abbrev AlK : Type := Bool × List DV
structure Looks where
  file : Str
  fs : List Fk
  ds : List DX
  sups : List (Str × Str × Str)
def Looks.obs (L : Looks) (K : PySem.W.Frag) : AlK := ((L.fs.all fun f => f.ok K) && ((L.ds.all fun d => d.cl != [] || d.good K) && L.sups.all fun s => supB L.file K s.1 (ma K (ga K s.2.1) "__init__") s.2.2), L.ds.map fun d => seen K (d.ad K))
def Looks.val (L : Looks) : AlK := (true, L.ds.map DX.say)
/-! ### where is looked: layer by layer -/
def frL {α : Type} : List Addr → (List Addr → α) → α
  | [], k => k []
  | a :: r, k => HandSHeadRun.frNat a fun a => frL r fun r => k (a :: r)
theorem frL_eq {α : Type} : ∀ (l : List Addr) (k : List Addr → α), frL l k = k l
  | [], _ => rfl
  | a :: r, k => by
    unfold frL
    rw [HandSHeadRun.frNat_eq, frL_eq r]
def valsAt (g : Addr → Option Obj) (a : Addr) : List Addr := match g a with
  | some ⟨_, _, .dict es _, _⟩ => es.toList.flatMap fun e => refV e.val
  | _ => []
def nsAt (g : Addr → Option Obj) (a : Addr) : List Addr := match g a with
  | some ⟨_, _, .cls cd, _⟩ => [cd.ns]
  | _ => []
def outsAt (g : Addr → Option Obj) (a : Addr) : List Addr := match g a with
  | some ⟨c, _, .func u, _⟩ => refV u.code ++ (refV u.kwdefaults ++ u.closure.map (·.2))
  | some ⟨.type t, _, .fields vs, _⟩ => if t = "property" then vs.toList.flatMap refV else []
  | _ => []
def reachK {α : Type} (g : Addr → Option Obj) (k : List Addr → α) : α :=
  frL (valsAt g mainGlobals) fun l1 => frL (l1.flatMap (nsAt g)) fun n1 => frL (n1.flatMap (valsAt g)) fun l3 => frL (l3.flatMap (outsAt g)) fun l4 => frL (l1.flatMap (outsAt g)) fun l2 => frL (l4.flatMap (outsAt g)) fun l5 =>
    k (mainGlobals :: PySem.cStatics :: (n1 ++ (l1 ++ (l3 ++ (l4 ++ (l2 ++ l5))))))
theorem reachK_eq {α : Type} (g : Addr → Option Obj) (k : List Addr → α) : ∃ l, reachK g k = k l := by
  unfold reachK
  simp only [frL_eq]
  exact ⟨_, rfl⟩
def Looks.see (L : Looks) (g : Addr → Option Obj) : AlK := reachK g fun l => L.obs (frG g l)
def hookK (L : Looks) : PySem.W.Hook where
  α := AlK
  obs := fun s => L.see s.heap.get?
  val := fun _ => L.val
  says := fun _ h => ∃ K : PySem.W.Frag, K.In h ∧ L.obs K = L.val
  of := fun _ s e => by
    obtain ⟨l, hl⟩ := reachK_eq s.heap.get? fun l => L.obs (frG s.heap.get? l)
    exact ⟨_, frG_in, hl.symm.trans e⟩
  keeps := fun _ _ _ ⟨K, hK, c⟩ k => ⟨K, PySem.W.Frag.In.keeps hK k, c⟩
def obK (L : Looks) (s : PySem.W.SharedT) : AlK := L.see (HandSHeadRun.getT s)
theorem obK_eq (L : Looks) (s : PySem.W.SharedT) : obK L s = (hookK L).obs s.abs := by
  have e : HandSHeadRun.getT s = s.abs.heap.get? := funext (HandSHeadRun.getT_eq s)
  unfold obK
  rw [e]
  rfl
section
variable {L : Looks} {K : PySem.W.Frag} (c : L.obs K = L.val)
include c
theorem Looks.fact (i : Nat) {f : Fk} (h : L.fs[i]? = some f := by rfl) : f.ok K = true := by
  have c1 := (ba (congrArg (fun z : AlK => z.1) c)).1
  exact List.all_eq_true.mp c1 f (List.mem_of_getElem? h)
theorem Looks.seen_at (i : Nat) {d : DX} (h : L.ds[i]? = some d) : seen K (d.ad K) = d.say := by
  have e : L.ds.map (fun d => seen K (d.ad K)) = L.ds.map DX.say := congrArg (fun z : AlK => z.2) c
  have e2 : (L.ds.map fun d => seen K (d.ad K))[i]? = (L.ds.map DX.say)[i]? := by rw [e]
  rw [List.getElem?_map, List.getElem?_map, h] at e2
  exact Option.some.inj e2
theorem Looks.def_ (i : Nat) {d : DX} (h : L.ds[i]? = some d := by rfl) (hcl : d.cl = [] := by rfl) : ∃ fd, FunD K d.nm d.ql (defArgs d.st) (defBody d.st) (defScope d.st) [] d.kw (d.ad K) fd := by
  have c2 := (ba (ba (congrArg (fun z : AlK => z.1) c)).2).1
  have := List.all_eq_true.mp c2 d (List.mem_of_getElem? h)
  rw [hcl] at this
  exact DX.fun_ hcl (Looks.seen_at c i h) (by simpa using this)
theorem Looks.sup_ (i : Nat) {s : Str × Str × Str} (h : L.sups[i]? = some s := by rfl) : supB L.file K s.1 (ma K (ga K s.2.1) "__init__") s.2.2 = true := by
  have c3 := (ba (ba (congrArg (fun z : AlK => z.1) c)).2).2
  exact List.all_eq_true.mp c3 s (List.mem_of_getElem? h)
end
end K31
set_option Elab.async false
set_option linter.all false
set_option maxRecDepth 100000
set_option maxHeartbeats 4000000
/-! What the head is looked at for, and the text's facts from it. -/
namespace K31
open PySem PySem.Spec PyProof.Rows L2 He NdefX ClX
def lkF0 : List Fk := [.fa (.glo "is_name"),
  .fa (.glo "is_ancestor"),
  .fa (.glo "need_parents"),
  .fa (.glo "path_in"),
  .fa (.glo "path_difference"),
  .fa (.glo "places_of"),
  .fa (.glo "is_integer"),
  .fa (.glo "need_feasible")]
def lkF1 : List Fk := [.fa (.glo "residents_of"),
  .fa (.glo "need_pins"),
  .fa (.glo "costs_of"),
  .fa (.glo "cheapest"),
  .fa (.glo "asked"),
  .fa (.glo "transfer"),
  .fa (.glo "is_crowd"),
  .fa (.glo "_law_begin")]
def lkF2 : List Fk := [.fa (.glo "_law_take"),
  .fa (.glo "_law_pick"),
  .fa (.glo "_law_mixed"),
  .fa (.glo "_law_names"),
  .fa (.glo "_law_parents"),
  .fa (.glo "_law_path"),
  .fa (.glo "_law_places"),
  .fa (.glo "_law_spots")]
def lkF3 : List Fk := [.fa (.glo "_law_sizes"),
  .fa (.glo "_law_rooms"),
  .fa (.glo "_law_allows"),
  .fa (.glo "_law_apart"),
  .fa (.glo "_law_costs"),
  .fa (.glo "_law_too_many"),
  .fa (.glo "_law_tolds"),
  .fa (.glo "_law_pin")]
def lkF4 : List Fk := [.fa (.glo "_law_transfer"),
  .fa (.glo "_law_found"),
  .fa (.glo "_law_is_crowd"),
  .fa (.glo "_law_sets"),
  .fa (.glo "_law_due"),
  .fa (.glo "_law_bent"),
  .fa (.glo "_law_drawn"),
  .fa (.glo "Forest")]
def lkF5 : List Fk := [.fa (.glo "Assignment"),
  .fa (.glo "Pin"),
  .fa (.glo "Must"),
  .fa (.glo "Never"),
  .fa (.glo "Stay"),
  .fa (.glo "Transfer"),
  .fa (.glo "Market"),
  .fa (.glo "Crowded")]
def lkF6 : List Fk := [.fa (.glo "RolloutError"),
  .fa (.free "isinstance"),
  .fa (.free "len"),
  .fa (.free "all"),
  .fa (.free "any"),
  .fa (.free "sorted"),
  .fa (.free "set"),
  .fa (.free "list")]
def lkF7 : List Fk := [.fa (.free "tuple"),
  .fa (.free "dict"),
  .fa (.free "range"),
  .fa (.free "enumerate"),
  .fa (.free "min"),
  .fa (.free "sum"),
  .fa (.free "int"),
  .fa (.free "bool")]
def lkF8 : List Fk := [.fa (.free "str"),
  .fa (.free "abs"),
  .fa (.free "repr"),
  .fa (.free "super"),
  .fa (.free "ValueError"),
  .fa (.cls "Forest"),
  .fa (.cls "Assignment"),
  .fa (.cls "Pin")]
def lkF9 : List Fk := [.fa (.cls "Must"),
  .fa (.cls "Never"),
  .fa (.cls "Stay"),
  .fa (.cls "Transfer"),
  .fa (.cls "Market"),
  .fa (.noat "Forest" "above"),
  .fa (.noat "Assignment" "own_forest"),
  .fa (.noat "Assignment" "own_places")]
def lkF10 : List Fk := [.fa (.noat "Must" "who"),
  .fa (.noat "Must" "wanted_flag"),
  .fa (.noat "Never" "who"),
  .fa (.noat "Never" "barred_flag"),
  .fa (.noat "Stay" "who"),
  .fa (.noat "Pin" "who"),
  .fa (.noat "Transfer" "cost"),
  .fa (.noat "Transfer" "reached")]
def lkF11 : List Fk := [.fa (.noat "Transfer" "price_of"),
  .fa (.noat "Market" "costs"),
  .fa (.noat "Market" "rooms"),
  .fa (.noat "Market" "given"),
  .fa (.mkr "Forest"),
  .fa (.mkr "Assignment"),
  .fa (.mkr "Transfer"),
  .fa (.mkr "Market")]
def lkF12 : List Fk := [.fa (.mkr "Must"),
  .fa (.mkr "Never"),
  .fa (.mkr "Stay"),
  .same "Stay" "Pin" "__init__",
  .fa (.meth "Market" "users_at"),
  .fa (.meth "Market" "extra"),
  .fa (.meth "Market" "ways"),
  .fa (.meth "Market" "enter")]
def lkF13 : List Fk := [.fa (.meth "Market" "priced"),
  .fa (.meth "Must" "allows"),
  .fa (.meth "Never" "allows"),
  .fa (.meth "Stay" "allows"),
  .prop "Forest" "flags",
  .prop "Forest" "parents",
  .prop "Assignment" "forest",
  .prop "Assignment" "places"]
def lkF14 : List Fk := [.prop "Assignment" "total",
  .ins "Must",
  .ins "Never",
  .ins "Stay",
  .ins "Transfer",
  .kit "Must" (fun K => .ref (ga K "Pin")) true,
  .kit "Never" (fun K => .ref (ga K "Pin")) true,
  .kit "Stay" (fun K => .ref (ga K "Pin")) true]
def lkF15 : List Fk := [.kit "Transfer" (fun _ => .type "tuple") false,
  .read "Forest",
  .cval "Forest" "ROOT" (.str ""),
  .cval "Forest" "MOST" (.int 12),
  .read "Assignment",
  .cval "Assignment" "MOST" (.int 60),
  .fa (.int "LONGEST" 8),
  .fa (.str "LETTERS" "abcdefghijklmnopqrstuvwxyz")]
def lkF16 : List Fk := [.oex "Crowded",
  .ini "Crowded",
  .fa (.noat "Crowded" "users"),
  .xf "Crowded",
  .fa (.exm "Crowded" "Crowded" true),
  .read "RolloutError",
  .cblt "RolloutError" "__init__" "ValueError.__init__",
  .fa (.glo "law")]
def lkF : List Fk := lkF0 ++ (lkF1 ++ (lkF2 ++ (lkF3 ++ (lkF4 ++ (lkF5 ++ (lkF6 ++ (lkF7 ++ (lkF8 ++ (lkF9 ++ (lkF10 ++ (lkF11 ++ (lkF12 ++ (lkF13 ++ (lkF14 ++ (lkF15 ++ (lkF16))))))))))))))))
def lkD0 : List DX := [⟨fun K => (ga K "is_name"), "is_name", "is_name", sis_name, [], []⟩,
  ⟨fun K => (ga K "is_ancestor"), "is_ancestor", "is_ancestor", sis_ancestor, [], []⟩,
  ⟨fun K => (ga K "need_parents"), "need_parents", "need_parents", sneed_parents, [], []⟩,
  ⟨fun K => (ga K "path_in"), "path_in", "path_in", spath_in, [], []⟩,
  ⟨fun K => (ga K "path_difference"), "path_difference", "path_difference", spath_difference, [], []⟩,
  ⟨fun K => (ga K "places_of"), "places_of", "places_of", splaces_of, [], []⟩,
  ⟨fun K => (ga K "is_integer"), "is_integer", "is_integer", sis_integer, [], []⟩,
  ⟨fun K => (ga K "need_feasible"), "need_feasible", "need_feasible", sneed_feasible, [], []⟩]
def lkD1 : List DX := [⟨fun K => (ga K "residents_of"), "residents_of", "residents_of", sresidents_of, [], []⟩,
  ⟨fun K => (ga K "need_pins"), "need_pins", "need_pins", sneed_pins, [], []⟩,
  ⟨fun K => (ga K "costs_of"), "costs_of", "costs_of", scosts_of, [], []⟩,
  ⟨fun K => (ga K "cheapest"), "cheapest", "cheapest", scheapest, [], []⟩,
  ⟨fun K => (ga K "asked"), "asked", "asked", sasked, [], []⟩,
  ⟨fun K => (ga K "transfer"), "transfer", "transfer", stransfer, [("forest", V.non)], []⟩,
  ⟨fun K => (ga K "is_crowd"), "is_crowd", "is_crowd", sis_crowd, [("forest", V.non)], []⟩,
  ⟨fun K => (ga K "_law_begin"), "_law_begin", "_law_begin", s_law_begin, [], []⟩]
def lkD2 : List DX := [⟨fun K => (ga K "_law_take"), "_law_take", "_law_take", s_law_take, [], []⟩,
  ⟨fun K => (ga K "_law_pick"), "_law_pick", "_law_pick", s_law_pick, [], []⟩,
  ⟨fun K => (ga K "_law_mixed"), "_law_mixed", "_law_mixed", s_law_mixed, [], []⟩,
  ⟨fun K => (ga K "_law_names"), "_law_names", "_law_names", s_law_names, [], []⟩,
  ⟨fun K => (ga K "_law_parents"), "_law_parents", "_law_parents", s_law_parents, [], []⟩,
  ⟨fun K => (ga K "_law_path"), "_law_path", "_law_path", s_law_path, [], []⟩,
  ⟨fun K => (ga K "_law_places"), "_law_places", "_law_places", s_law_places, [], []⟩,
  ⟨fun K => (ga K "_law_spots"), "_law_spots", "_law_spots", s_law_spots, [], []⟩]
def lkD3 : List DX := [⟨fun K => (ga K "_law_sizes"), "_law_sizes", "_law_sizes", s_law_sizes, [], []⟩,
  ⟨fun K => (ga K "_law_rooms"), "_law_rooms", "_law_rooms", s_law_rooms, [], []⟩,
  ⟨fun K => (ga K "_law_allows"), "_law_allows", "_law_allows", s_law_allows, [], []⟩,
  ⟨fun K => (ga K "_law_apart"), "_law_apart", "_law_apart", s_law_apart, [], []⟩,
  ⟨fun K => (ga K "_law_costs"), "_law_costs", "_law_costs", s_law_costs, [], []⟩,
  ⟨fun K => (ga K "_law_too_many"), "_law_too_many", "_law_too_many", s_law_too_many, [], []⟩,
  ⟨fun K => (ga K "_law_tolds"), "_law_tolds", "_law_tolds", s_law_tolds, [], []⟩,
  ⟨fun K => (ga K "_law_pin"), "_law_pin", "_law_pin", s_law_pin, [], []⟩]
def lkD4 : List DX := [⟨fun K => (ga K "_law_transfer"), "_law_transfer", "_law_transfer", s_law_transfer, [], []⟩,
  ⟨fun K => (ga K "_law_found"), "_law_found", "_law_found", s_law_found, [], []⟩,
  ⟨fun K => (ga K "_law_is_crowd"), "_law_is_crowd", "_law_is_crowd", s_law_is_crowd, [], []⟩,
  ⟨fun K => (ga K "_law_sets"), "_law_sets", "_law_sets", s_law_sets, [], []⟩,
  ⟨fun K => (ga K "_law_due"), "_law_due", "_law_due", s_law_due, [], []⟩,
  ⟨fun K => (ga K "_law_bent"), "_law_bent", "_law_bent", s_law_bent, [], []⟩,
  ⟨fun K => (ga K "_law_drawn"), "_law_drawn", "_law_drawn", s_law_drawn, [], []⟩,
  ⟨fun K => (ma K (ga K "Forest") "__init__"), "__init__", "Forest.__init__", mForest_init, [], []⟩]
def lkD5 : List DX := [⟨fun K => (prA K (ga K "Forest") "flags"), "flags", "Forest.flags", mForest_flags, [], []⟩,
  ⟨fun K => (prA K (ga K "Forest") "parents"), "parents", "Forest.parents", mForest_parents, [], []⟩,
  ⟨fun K => (ma K (ga K "Assignment") "__init__"), "__init__", "Assignment.__init__", mAssignment_init, [], []⟩,
  ⟨fun K => (prA K (ga K "Assignment") "forest"), "forest", "Assignment.forest", mAssignment_forest, [], []⟩,
  ⟨fun K => (prA K (ga K "Assignment") "places"), "places", "Assignment.places", mAssignment_places, [], []⟩,
  ⟨fun K => (prA K (ga K "Assignment") "total"), "total", "Assignment.total", mAssignment_total, [], []⟩,
  ⟨fun K => (ma K (ga K "Pin") "__init__"), "__init__", "Pin.__init__", mPin_init, [], []⟩,
  ⟨fun K => (ma K (ga K "Must") "allows"), "allows", "Must.allows", mMust_allows, [], []⟩]
def lkD6 : List DX := [⟨fun K => (ma K (ga K "Never") "allows"), "allows", "Never.allows", mNever_allows, [], []⟩,
  ⟨fun K => (ma K (ga K "Stay") "allows"), "allows", "Stay.allows", mStay_allows, [], []⟩,
  ⟨fun K => (ma K (ga K "Transfer") "__init__"), "__init__", "Transfer.__init__", mTransfer_init, [], []⟩,
  ⟨fun K => (ma K (ga K "Market") "__init__"), "__init__", "Market.__init__", mMarket_init, [], []⟩,
  ⟨fun K => (ma K (ga K "Market") "users_at"), "users_at", "Market.users_at", mMarket_users_at, [], []⟩,
  ⟨fun K => (ma K (ga K "Market") "extra"), "extra", "Market.extra", mMarket_extra, [], []⟩,
  ⟨fun K => (ma K (ga K "Market") "ways"), "ways", "Market.ways", mMarket_ways, [], []⟩,
  ⟨fun K => (ma K (ga K "Market") "enter"), "enter", "Market.enter", mMarket_enter, [], []⟩]
def lkD7 : List DX := [⟨fun K => (ma K (ga K "Market") "priced"), "priced", "Market.priced", mMarket_priced, [], []⟩,
  ⟨fun K => (ma K (ga K "Crowded") "__init__"), "__init__", "Crowded.__init__", mCrowded_init, [], []⟩,
  ⟨fun K => ga K "law", "law", "law", slaw, [], []⟩,
  ⟨fun K => ma K (ga K "Must") "__init__", "__init__", "Must.__init__", inClass (top 34) 0, [], ["__class__"]⟩,
  ⟨fun K => ma K (ga K "Never") "__init__", "__init__", "Never.__init__", inClass (top 35) 0, [], ["__class__"]⟩]
def lkD : List DX := lkD0 ++ (lkD1 ++ (lkD2 ++ (lkD3 ++ (lkD4 ++ (lkD5 ++ (lkD6 ++ (lkD7)))))))
def lk : Looks := ⟨PySem.Challenge.pw_flagtrees_k31_whole_crowds.main.file, lkF, lkD, [("Must", "Pin", "Must.__init__"), ("Never", "Pin", "Never.__init__")]⟩
section
variable {K : PySem.W.Frag} {h : Heap} {mg : Str → Option Value}
theorem txt_of (c : lk.obs K = lk.val) (X : K.In h) (G : h.Ns mainGlobals mg) : Txt K mg where
    g_is_name := glo_ok X G (Looks.fact c 0 (f := .fa (.glo "is_name")))
    f_is_name := Looks.def_ c 0 (d := ⟨fun K => (ga K "is_name"), "is_name", "is_name", sis_name, [], []⟩)
    g_is_ancestor := glo_ok X G (Looks.fact c 1 (f := .fa (.glo "is_ancestor")))
    f_is_ancestor := Looks.def_ c 1 (d := ⟨fun K => (ga K "is_ancestor"), "is_ancestor", "is_ancestor", sis_ancestor, [], []⟩)
    g_need_parents := glo_ok X G (Looks.fact c 2 (f := .fa (.glo "need_parents")))
    f_need_parents := Looks.def_ c 2 (d := ⟨fun K => (ga K "need_parents"), "need_parents", "need_parents", sneed_parents, [], []⟩)
    g_path_in := glo_ok X G (Looks.fact c 3 (f := .fa (.glo "path_in")))
    f_path_in := Looks.def_ c 3 (d := ⟨fun K => (ga K "path_in"), "path_in", "path_in", spath_in, [], []⟩)
    g_path_difference := glo_ok X G (Looks.fact c 4 (f := .fa (.glo "path_difference")))
    f_path_difference := Looks.def_ c 4 (d := ⟨fun K => (ga K "path_difference"), "path_difference", "path_difference", spath_difference, [], []⟩)
    g_places_of := glo_ok X G (Looks.fact c 5 (f := .fa (.glo "places_of")))
    f_places_of := Looks.def_ c 5 (d := ⟨fun K => (ga K "places_of"), "places_of", "places_of", splaces_of, [], []⟩)
    g_is_integer := glo_ok X G (Looks.fact c 6 (f := .fa (.glo "is_integer")))
    f_is_integer := Looks.def_ c 6 (d := ⟨fun K => (ga K "is_integer"), "is_integer", "is_integer", sis_integer, [], []⟩)
    g_need_feasible := glo_ok X G (Looks.fact c 7 (f := .fa (.glo "need_feasible")))
    f_need_feasible := Looks.def_ c 7 (d := ⟨fun K => (ga K "need_feasible"), "need_feasible", "need_feasible", sneed_feasible, [], []⟩)
    g_residents_of := glo_ok X G (Looks.fact c 8 (f := .fa (.glo "residents_of")))
    f_residents_of := Looks.def_ c 8 (d := ⟨fun K => (ga K "residents_of"), "residents_of", "residents_of", sresidents_of, [], []⟩)
    g_need_pins := glo_ok X G (Looks.fact c 9 (f := .fa (.glo "need_pins")))
    f_need_pins := Looks.def_ c 9 (d := ⟨fun K => (ga K "need_pins"), "need_pins", "need_pins", sneed_pins, [], []⟩)
    g_costs_of := glo_ok X G (Looks.fact c 10 (f := .fa (.glo "costs_of")))
    f_costs_of := Looks.def_ c 10 (d := ⟨fun K => (ga K "costs_of"), "costs_of", "costs_of", scosts_of, [], []⟩)
    g_cheapest := glo_ok X G (Looks.fact c 11 (f := .fa (.glo "cheapest")))
    f_cheapest := Looks.def_ c 11 (d := ⟨fun K => (ga K "cheapest"), "cheapest", "cheapest", scheapest, [], []⟩)
    g_asked := glo_ok X G (Looks.fact c 12 (f := .fa (.glo "asked")))
    f_asked := Looks.def_ c 12 (d := ⟨fun K => (ga K "asked"), "asked", "asked", sasked, [], []⟩)
    g_transfer := glo_ok X G (Looks.fact c 13 (f := .fa (.glo "transfer")))
    f_transfer := Looks.def_ c 13 (d := ⟨fun K => (ga K "transfer"), "transfer", "transfer", stransfer, [("forest", V.non)], []⟩)
    g_is_crowd := glo_ok X G (Looks.fact c 14 (f := .fa (.glo "is_crowd")))
    f_is_crowd := Looks.def_ c 14 (d := ⟨fun K => (ga K "is_crowd"), "is_crowd", "is_crowd", sis_crowd, [("forest", V.non)], []⟩)
    g__law_begin := glo_ok X G (Looks.fact c 15 (f := .fa (.glo "_law_begin")))
    f__law_begin := Looks.def_ c 15 (d := ⟨fun K => (ga K "_law_begin"), "_law_begin", "_law_begin", s_law_begin, [], []⟩)
    g__law_take := glo_ok X G (Looks.fact c 16 (f := .fa (.glo "_law_take")))
    f__law_take := Looks.def_ c 16 (d := ⟨fun K => (ga K "_law_take"), "_law_take", "_law_take", s_law_take, [], []⟩)
    g__law_pick := glo_ok X G (Looks.fact c 17 (f := .fa (.glo "_law_pick")))
    f__law_pick := Looks.def_ c 17 (d := ⟨fun K => (ga K "_law_pick"), "_law_pick", "_law_pick", s_law_pick, [], []⟩)
    g__law_mixed := glo_ok X G (Looks.fact c 18 (f := .fa (.glo "_law_mixed")))
    f__law_mixed := Looks.def_ c 18 (d := ⟨fun K => (ga K "_law_mixed"), "_law_mixed", "_law_mixed", s_law_mixed, [], []⟩)
    g__law_names := glo_ok X G (Looks.fact c 19 (f := .fa (.glo "_law_names")))
    f__law_names := Looks.def_ c 19 (d := ⟨fun K => (ga K "_law_names"), "_law_names", "_law_names", s_law_names, [], []⟩)
    g__law_parents := glo_ok X G (Looks.fact c 20 (f := .fa (.glo "_law_parents")))
    f__law_parents := Looks.def_ c 20 (d := ⟨fun K => (ga K "_law_parents"), "_law_parents", "_law_parents", s_law_parents, [], []⟩)
    g__law_path := glo_ok X G (Looks.fact c 21 (f := .fa (.glo "_law_path")))
    f__law_path := Looks.def_ c 21 (d := ⟨fun K => (ga K "_law_path"), "_law_path", "_law_path", s_law_path, [], []⟩)
    g__law_places := glo_ok X G (Looks.fact c 22 (f := .fa (.glo "_law_places")))
    f__law_places := Looks.def_ c 22 (d := ⟨fun K => (ga K "_law_places"), "_law_places", "_law_places", s_law_places, [], []⟩)
    g__law_spots := glo_ok X G (Looks.fact c 23 (f := .fa (.glo "_law_spots")))
    f__law_spots := Looks.def_ c 23 (d := ⟨fun K => (ga K "_law_spots"), "_law_spots", "_law_spots", s_law_spots, [], []⟩)
    g__law_sizes := glo_ok X G (Looks.fact c 24 (f := .fa (.glo "_law_sizes")))
    f__law_sizes := Looks.def_ c 24 (d := ⟨fun K => (ga K "_law_sizes"), "_law_sizes", "_law_sizes", s_law_sizes, [], []⟩)
    g__law_rooms := glo_ok X G (Looks.fact c 25 (f := .fa (.glo "_law_rooms")))
    f__law_rooms := Looks.def_ c 25 (d := ⟨fun K => (ga K "_law_rooms"), "_law_rooms", "_law_rooms", s_law_rooms, [], []⟩)
    g__law_allows := glo_ok X G (Looks.fact c 26 (f := .fa (.glo "_law_allows")))
    f__law_allows := Looks.def_ c 26 (d := ⟨fun K => (ga K "_law_allows"), "_law_allows", "_law_allows", s_law_allows, [], []⟩)
    g__law_apart := glo_ok X G (Looks.fact c 27 (f := .fa (.glo "_law_apart")))
    f__law_apart := Looks.def_ c 27 (d := ⟨fun K => (ga K "_law_apart"), "_law_apart", "_law_apart", s_law_apart, [], []⟩)
    g__law_costs := glo_ok X G (Looks.fact c 28 (f := .fa (.glo "_law_costs")))
    f__law_costs := Looks.def_ c 28 (d := ⟨fun K => (ga K "_law_costs"), "_law_costs", "_law_costs", s_law_costs, [], []⟩)
    g__law_too_many := glo_ok X G (Looks.fact c 29 (f := .fa (.glo "_law_too_many")))
    f__law_too_many := Looks.def_ c 29 (d := ⟨fun K => (ga K "_law_too_many"), "_law_too_many", "_law_too_many", s_law_too_many, [], []⟩)
    g__law_tolds := glo_ok X G (Looks.fact c 30 (f := .fa (.glo "_law_tolds")))
    f__law_tolds := Looks.def_ c 30 (d := ⟨fun K => (ga K "_law_tolds"), "_law_tolds", "_law_tolds", s_law_tolds, [], []⟩)
    g__law_pin := glo_ok X G (Looks.fact c 31 (f := .fa (.glo "_law_pin")))
    f__law_pin := Looks.def_ c 31 (d := ⟨fun K => (ga K "_law_pin"), "_law_pin", "_law_pin", s_law_pin, [], []⟩)
    g__law_transfer := glo_ok X G (Looks.fact c 32 (f := .fa (.glo "_law_transfer")))
    f__law_transfer := Looks.def_ c 32 (d := ⟨fun K => (ga K "_law_transfer"), "_law_transfer", "_law_transfer", s_law_transfer, [], []⟩)
    g__law_found := glo_ok X G (Looks.fact c 33 (f := .fa (.glo "_law_found")))
    f__law_found := Looks.def_ c 33 (d := ⟨fun K => (ga K "_law_found"), "_law_found", "_law_found", s_law_found, [], []⟩)
    g__law_is_crowd := glo_ok X G (Looks.fact c 34 (f := .fa (.glo "_law_is_crowd")))
    f__law_is_crowd := Looks.def_ c 34 (d := ⟨fun K => (ga K "_law_is_crowd"), "_law_is_crowd", "_law_is_crowd", s_law_is_crowd, [], []⟩)
    g__law_sets := glo_ok X G (Looks.fact c 35 (f := .fa (.glo "_law_sets")))
    f__law_sets := Looks.def_ c 35 (d := ⟨fun K => (ga K "_law_sets"), "_law_sets", "_law_sets", s_law_sets, [], []⟩)
    g__law_due := glo_ok X G (Looks.fact c 36 (f := .fa (.glo "_law_due")))
    f__law_due := Looks.def_ c 36 (d := ⟨fun K => (ga K "_law_due"), "_law_due", "_law_due", s_law_due, [], []⟩)
    g__law_bent := glo_ok X G (Looks.fact c 37 (f := .fa (.glo "_law_bent")))
    f__law_bent := Looks.def_ c 37 (d := ⟨fun K => (ga K "_law_bent"), "_law_bent", "_law_bent", s_law_bent, [], []⟩)
    g__law_drawn := glo_ok X G (Looks.fact c 38 (f := .fa (.glo "_law_drawn")))
    f__law_drawn := Looks.def_ c 38 (d := ⟨fun K => (ga K "_law_drawn"), "_law_drawn", "_law_drawn", s_law_drawn, [], []⟩)
    g_Forest := glo_ok X G (Looks.fact c 39 (f := .fa (.glo "Forest")))
    g_Assignment := glo_ok X G (Looks.fact c 40 (f := .fa (.glo "Assignment")))
    g_Pin := glo_ok X G (Looks.fact c 41 (f := .fa (.glo "Pin")))
    g_Must := glo_ok X G (Looks.fact c 42 (f := .fa (.glo "Must")))
    g_Never := glo_ok X G (Looks.fact c 43 (f := .fa (.glo "Never")))
    g_Stay := glo_ok X G (Looks.fact c 44 (f := .fa (.glo "Stay")))
    g_Transfer := glo_ok X G (Looks.fact c 45 (f := .fa (.glo "Transfer")))
    g_Market := glo_ok X G (Looks.fact c 46 (f := .fa (.glo "Market")))
    g_Crowded := glo_ok X G (Looks.fact c 47 (f := .fa (.glo "Crowded")))
    g_RolloutError := glo_ok X G (Looks.fact c 48 (f := .fa (.glo "RolloutError")))
    n_isinstance := free_ok X G (Looks.fact c 49 (f := .fa (.free "isinstance")))
    n_len := free_ok X G (Looks.fact c 50 (f := .fa (.free "len")))
    n_all := free_ok X G (Looks.fact c 51 (f := .fa (.free "all")))
    n_any := free_ok X G (Looks.fact c 52 (f := .fa (.free "any")))
    n_sorted := free_ok X G (Looks.fact c 53 (f := .fa (.free "sorted")))
    n_set := free_ok X G (Looks.fact c 54 (f := .fa (.free "set")))
    n_list := free_ok X G (Looks.fact c 55 (f := .fa (.free "list")))
    n_tuple := free_ok X G (Looks.fact c 56 (f := .fa (.free "tuple")))
    n_dict := free_ok X G (Looks.fact c 57 (f := .fa (.free "dict")))
    n_range := free_ok X G (Looks.fact c 58 (f := .fa (.free "range")))
    n_enumerate := free_ok X G (Looks.fact c 59 (f := .fa (.free "enumerate")))
    n_min := free_ok X G (Looks.fact c 60 (f := .fa (.free "min")))
    n_sum := free_ok X G (Looks.fact c 61 (f := .fa (.free "sum")))
    n_int := free_ok X G (Looks.fact c 62 (f := .fa (.free "int")))
    n_bool := free_ok X G (Looks.fact c 63 (f := .fa (.free "bool")))
    n_str := free_ok X G (Looks.fact c 64 (f := .fa (.free "str")))
    n_abs := free_ok X G (Looks.fact c 65 (f := .fa (.free "abs")))
    n_repr := free_ok X G (Looks.fact c 66 (f := .fa (.free "repr")))
    n_super := free_ok X G (Looks.fact c 67 (f := .fa (.free "super")))
    n_ValueError := free_ok X G (Looks.fact c 68 (f := .fa (.free "ValueError")))
    c_Forest := cls_ok (Looks.fact c 69 (f := .fa (.cls "Forest")))
    c_Assignment := cls_ok (Looks.fact c 70 (f := .fa (.cls "Assignment")))
    c_Pin := cls_ok (Looks.fact c 71 (f := .fa (.cls "Pin")))
    c_Must := cls_ok (Looks.fact c 72 (f := .fa (.cls "Must")))
    c_Never := cls_ok (Looks.fact c 73 (f := .fa (.cls "Never")))
    c_Stay := cls_ok (Looks.fact c 74 (f := .fa (.cls "Stay")))
    c_Transfer := cls_ok (Looks.fact c 75 (f := .fa (.cls "Transfer")))
    c_Market := cls_ok (Looks.fact c 76 (f := .fa (.cls "Market")))
    f_Forest_init := Looks.def_ c 39 (d := ⟨fun K => (ma K (ga K "Forest") "__init__"), "__init__", "Forest.__init__", mForest_init, [], []⟩)
    f_Forest_flags := Looks.def_ c 40 (d := ⟨fun K => (prA K (ga K "Forest") "flags"), "flags", "Forest.flags", mForest_flags, [], []⟩)
    f_Forest_parents := Looks.def_ c 41 (d := ⟨fun K => (prA K (ga K "Forest") "parents"), "parents", "Forest.parents", mForest_parents, [], []⟩)
    f_Assignment_init := Looks.def_ c 42 (d := ⟨fun K => (ma K (ga K "Assignment") "__init__"), "__init__", "Assignment.__init__", mAssignment_init, [], []⟩)
    f_Assignment_forest := Looks.def_ c 43 (d := ⟨fun K => (prA K (ga K "Assignment") "forest"), "forest", "Assignment.forest", mAssignment_forest, [], []⟩)
    f_Assignment_places := Looks.def_ c 44 (d := ⟨fun K => (prA K (ga K "Assignment") "places"), "places", "Assignment.places", mAssignment_places, [], []⟩)
    f_Assignment_total := Looks.def_ c 45 (d := ⟨fun K => (prA K (ga K "Assignment") "total"), "total", "Assignment.total", mAssignment_total, [], []⟩)
    f_Pin_init := Looks.def_ c 46 (d := ⟨fun K => (ma K (ga K "Pin") "__init__"), "__init__", "Pin.__init__", mPin_init, [], []⟩)
    f_Must_allows := Looks.def_ c 47 (d := ⟨fun K => (ma K (ga K "Must") "allows"), "allows", "Must.allows", mMust_allows, [], []⟩)
    f_Never_allows := Looks.def_ c 48 (d := ⟨fun K => (ma K (ga K "Never") "allows"), "allows", "Never.allows", mNever_allows, [], []⟩)
    f_Stay_allows := Looks.def_ c 49 (d := ⟨fun K => (ma K (ga K "Stay") "allows"), "allows", "Stay.allows", mStay_allows, [], []⟩)
    f_Transfer_init := Looks.def_ c 50 (d := ⟨fun K => (ma K (ga K "Transfer") "__init__"), "__init__", "Transfer.__init__", mTransfer_init, [], []⟩)
    f_Market_init := Looks.def_ c 51 (d := ⟨fun K => (ma K (ga K "Market") "__init__"), "__init__", "Market.__init__", mMarket_init, [], []⟩)
    f_Market_users_at := Looks.def_ c 52 (d := ⟨fun K => (ma K (ga K "Market") "users_at"), "users_at", "Market.users_at", mMarket_users_at, [], []⟩)
    f_Market_extra := Looks.def_ c 53 (d := ⟨fun K => (ma K (ga K "Market") "extra"), "extra", "Market.extra", mMarket_extra, [], []⟩)
    f_Market_ways := Looks.def_ c 54 (d := ⟨fun K => (ma K (ga K "Market") "ways"), "ways", "Market.ways", mMarket_ways, [], []⟩)
    f_Market_enter := Looks.def_ c 55 (d := ⟨fun K => (ma K (ga K "Market") "enter"), "enter", "Market.enter", mMarket_enter, [], []⟩)
    f_Market_priced := Looks.def_ c 56 (d := ⟨fun K => (ma K (ga K "Market") "priced"), "priced", "Market.priced", mMarket_priced, [], []⟩)
    f_Crowded_init := Looks.def_ c 57 (d := ⟨fun K => (ma K (ga K "Crowded") "__init__"), "__init__", "Crowded.__init__", mCrowded_init, [], []⟩)
    a_Forest_above := noat_ok (Looks.fact c 77 (f := .fa (.noat "Forest" "above")))
    a_Assignment_own_forest := noat_ok (Looks.fact c 78 (f := .fa (.noat "Assignment" "own_forest")))
    a_Assignment_own_places := noat_ok (Looks.fact c 79 (f := .fa (.noat "Assignment" "own_places")))
    a_Must_who := noat_ok (Looks.fact c 80 (f := .fa (.noat "Must" "who")))
    a_Must_wanted_flag := noat_ok (Looks.fact c 81 (f := .fa (.noat "Must" "wanted_flag")))
    a_Never_who := noat_ok (Looks.fact c 82 (f := .fa (.noat "Never" "who")))
    a_Never_barred_flag := noat_ok (Looks.fact c 83 (f := .fa (.noat "Never" "barred_flag")))
    a_Stay_who := noat_ok (Looks.fact c 84 (f := .fa (.noat "Stay" "who")))
    a_Pin_who := noat_ok (Looks.fact c 85 (f := .fa (.noat "Pin" "who")))
    a_Transfer_cost := noat_ok (Looks.fact c 86 (f := .fa (.noat "Transfer" "cost")))
    a_Transfer_reached := noat_ok (Looks.fact c 87 (f := .fa (.noat "Transfer" "reached")))
    a_Transfer_price_of := noat_ok (Looks.fact c 88 (f := .fa (.noat "Transfer" "price_of")))
    a_Market_costs := noat_ok (Looks.fact c 89 (f := .fa (.noat "Market" "costs")))
    a_Market_rooms := noat_ok (Looks.fact c 90 (f := .fa (.noat "Market" "rooms")))
    a_Market_given := noat_ok (Looks.fact c 91 (f := .fa (.noat "Market" "given")))
    k_Forest := mkr_ok (Looks.fact c 92 (f := .fa (.mkr "Forest")))
    k_Assignment := mkr_ok (Looks.fact c 93 (f := .fa (.mkr "Assignment")))
    k_Transfer := mkr_ok (Looks.fact c 94 (f := .fa (.mkr "Transfer")))
    k_Market := mkr_ok (Looks.fact c 95 (f := .fa (.mkr "Market")))
    k_Must := mkr_ok (Looks.fact c 96 (f := .fa (.mkr "Must")))
    k_Never := mkr_ok (Looks.fact c 97 (f := .fa (.mkr "Never")))
    k_Stay := by
      have h1 := mkr_ok (Looks.fact c 98 (f := .fa (.mkr "Stay")))
      have h2 : ma K (ga K "Stay") "__init__" = ma K (ga K "Pin") "__init__" := of_decide_eq_true (Looks.fact c 99 (f := .same "Stay" "Pin" "__init__"))
      rw [← h2]
      exact h1
    m_Market_users_at := meth_ok (Looks.fact c 100 (f := .fa (.meth "Market" "users_at")))
    m_Market_extra := meth_ok (Looks.fact c 101 (f := .fa (.meth "Market" "extra")))
    m_Market_ways := meth_ok (Looks.fact c 102 (f := .fa (.meth "Market" "ways")))
    m_Market_enter := meth_ok (Looks.fact c 103 (f := .fa (.meth "Market" "enter")))
    m_Market_priced := meth_ok (Looks.fact c 104 (f := .fa (.meth "Market" "priced")))
    m_Must_allows := meth_ok (Looks.fact c 105 (f := .fa (.meth "Must" "allows")))
    m_Never_allows := meth_ok (Looks.fact c 106 (f := .fa (.meth "Never" "allows")))
    m_Stay_allows := meth_ok (Looks.fact c 107 (f := .fa (.meth "Stay" "allows")))
    p_Forest_flags := propB_ok (Looks.fact c 108 (f := .prop "Forest" "flags"))
    p_Forest_parents := propB_ok (Looks.fact c 109 (f := .prop "Forest" "parents"))
    p_Assignment_forest := propB_ok (Looks.fact c 110 (f := .prop "Assignment" "forest"))
    p_Assignment_places := propB_ok (Looks.fact c 111 (f := .prop "Assignment" "places"))
    p_Assignment_total := propB_ok (Looks.fact c 112 (f := .prop "Assignment" "total"))
    i_Must := insB_ok (cls_ok (Looks.fact c 72 (f := .fa (.cls "Must")))) (Looks.fact c 113 (f := .ins "Must"))
    i_Never := insB_ok (cls_ok (Looks.fact c 73 (f := .fa (.cls "Never")))) (Looks.fact c 114 (f := .ins "Never"))
    i_Stay := insB_ok (cls_ok (Looks.fact c 74 (f := .fa (.cls "Stay")))) (Looks.fact c 115 (f := .ins "Stay"))
    i_Transfer := insB_ok (cls_ok (Looks.fact c 75 (f := .fa (.cls "Transfer")))) (Looks.fact c 116 (f := .ins "Transfer"))
    isP_Must := of_decide_eq_true (Looks.fact c 117 (f := .kit "Must" (fun K => .ref (ga K "Pin")) true))
    isP_Never := of_decide_eq_true (Looks.fact c 118 (f := .kit "Never" (fun K => .ref (ga K "Pin")) true))
    isP_Stay := of_decide_eq_true (Looks.fact c 119 (f := .kit "Stay" (fun K => .ref (ga K "Pin")) true))
    isT := of_decide_eq_true (Looks.fact c 120 (f := .kit "Transfer" (fun _ => .type "tuple") false))
    v_Forest_ROOT := ⟨readB_ok (Looks.fact c 121 (f := .read "Forest")), cvalB_ok (Looks.fact c 122 (f := .cval "Forest" "ROOT" (.str "")))⟩
    v_Forest_MOST := ⟨readB_ok (Looks.fact c 121 (f := .read "Forest")), cvalB_ok (Looks.fact c 123 (f := .cval "Forest" "MOST" (.int 12)))⟩
    v_Assignment_MOST := ⟨readB_ok (Looks.fact c 124 (f := .read "Assignment")), cvalB_ok (Looks.fact c 125 (f := .cval "Assignment" "MOST" (.int 60)))⟩
    longest := let ⟨t, e⟩ := int_ok X G (Looks.fact c 126 (f := .fa (.int "LONGEST" 8))); ⟨_, e, ⟨t, rfl⟩⟩
    letters := let ⟨t, e⟩ := str_ok X G (Looks.fact c 127 (f := .fa (.str "LETTERS" "abcdefghijklmnopqrstuvwxyz"))); ⟨_, e, ⟨t, rfl⟩⟩
    x_Crowded := oexB_ok (Looks.fact c 128 (f := .oex "Crowded"))
    xi_Crowded := eqO_ok (ba (Looks.fact c 129 (f := .ini "Crowded"))).1
    xt_Crowded := of_decide_eq_true (ba (Looks.fact c 129 (f := .ini "Crowded"))).2
    xn_Crowded := noat_ok (Looks.fact c 130 (f := .fa (.noat "Crowded" "users")))
    xf_Crowded := xfB_ok (Looks.fact c 131 (f := .xf "Crowded"))
    xm_Crowded := exm_ok (Looks.fact c 132 (f := .fa (.exm "Crowded" "Crowded" true)))
    rr_RE := readB_ok (Looks.fact c 133 (f := .read "RolloutError"))
    ri_RE := cbltB_ok (Looks.fact c 134 (f := .cblt "RolloutError" "__init__" "ValueError.__init__"))
end
end K31
set_option Elab.async false
set_option linter.all false
set_option maxRecDepth 100000
set_option maxHeartbeats 0
/-! The top, run in the kernel. -/
namespace K31
open PySem PySem.W PySem.Calls PyProof.Rows
abbrev R : OpenRow := OpenLaw.row PySem.Challenge.rw_flagtrees_k31_whole_crowds
abbrev qv : Program := view R.prog [72]
def names0 : List PySem.Str := ["_wall", "RolloutError", "InvalidForest", "UnknownName", "InvalidUsers", "InvalidSizes", "InvalidPlace", "UnknownUser"]
def names1 : List PySem.Str := ["InvalidPin", "Crowded", "LONGEST", "LETTERS", "is_name", "is_ancestor", "need_parents", "Forest"]
def names2 : List PySem.Str := ["path_in", "path_difference", "places_of", "need_place", "need_flag", "is_integer", "need_feasible", "residents_of"]
def names3 : List PySem.Str := ["sizes_of", "Assignment", "need_user", "is_user_number", "Pin", "Must", "Never", "Stay"]
def names4 : List PySem.Str := ["Transfer", "need_pins", "costs_of", "Market", "cheapest", "asked", "transfer", "is_crowd"]
def names5 : List PySem.Str := ["_law_begin", "_law_take", "_law_pick", "_law_mixed", "_law_names", "_law_parents", "_law_path", "_law_places"]
def names6 : List PySem.Str := ["_law_spots", "_law_sizes", "_law_rooms", "_law_allows", "_law_apart", "_law_costs", "_law_bound", "_law_too_many"]
def names7 : List PySem.Str := ["_law_tolds", "_law_pin", "_law_transfer", "_law_found", "_law_is_crowd", "_law_sets", "_law_due", "_law_bent"]
def names8 : List PySem.Str := ["_law_drawn"]
def names : List PySem.Str := names0 ++ names1 ++ names2 ++ names3 ++ names4 ++ names5 ++ names6 ++ names7 ++ names8


/-- the state behind the top -/
noncomputable abbrev fin (w : World) (os : OsState) : Option SharedT := HandSHeadRun.endF (HandSHeadRun.stepQ (HandSHeadRun.denQ HandSHeadRun.tabQ) R.prog w) 20000 R.prog w os
theorem run1 (w : World) (os : OsState) : (fin w os).map (fun s => HandSHeadRun.looksF R.prog (boot_heap w.params) s.abs) = some true := by
  kernel_rfl
theorem run2 (w : World) (os : OsState) : (fin w os).map (fun s => HandSHeadRun.seenQ qv names (importedModules R.prog.main.body) (fun s => xlAt qv [] s && recOk R.toRowW.records s) s.abs) = some (openGood qv names) := by
  kernel_rfl
theorem run3 (w : World) (os : OsState) : (fin w os).map (obK lk) = some lk.val := by
  kernel_rfl
theorem run (w : World) : HandSHeadRun.RunEq R qv (hookK lk) (obK lk) 20000 names w := fun os => by
  have h1 := run1 w os
  have h2 := run2 w os
  have h3 := run3 w os
  show (fin w os).map _ = _
  cases e : fin w os with
  | none => rw [e] at h1; cases h1
  | some s =>
    rw [e] at h1 h2 h3
    have e1 := Option.some.inj h1
    have e2 := Option.some.inj h2
    have e3 := Option.some.inj h3
    dsimp only at e1 e2 e3
    exact congrArg some (Prod.ext e1 (Prod.ext e2 e3))
end K31
set_option linter.all false
/-! The mathematics of the market, plain: chains of moves, their costs, potentials, crowds. -/
namespace K31
/-! ### lists -/
theorem nodup_erase_of {α : Type} [DecidableEq α] {l : List α} {a : α} (h : l.Nodup) : (l.erase a).Nodup := h.erase a

def sumOn {α : Type} (f : α → Nat) : List α → Nat
  | [] => 0
  | a :: l => f a + sumOn f l
theorem sumOn_append {α : Type} (f : α → Nat) : ∀ l r : List α, sumOn f (l ++ r) = sumOn f l + sumOn f r
  | [], r => by simp [sumOn]
  | a :: l, r => by
    show f a + sumOn f (l ++ r) = f a + sumOn f l + sumOn f r
    rw [sumOn_append f l r]; omega
theorem sumOn_mono {α : Type} {f g : α → Nat} : ∀ {l : List α}, (∀ a ∈ l, f a ≤ g a) → sumOn f l ≤ sumOn g l
  | [], _ => Nat.le_refl _
  | a :: l, h => by
    have h1 := h a (List.mem_cons_self ..)
    have h2 := sumOn_mono (l := l) fun b hb => h b (List.mem_cons_of_mem _ hb)
    show f a + sumOn f l ≤ g a + sumOn g l
    omega
theorem sumOn_congr {α : Type} {f g : α → Nat} {l : List α} (h : ∀ a ∈ l, f a = g a) : sumOn f l = sumOn g l :=
  Nat.le_antisymm (sumOn_mono fun a ha => Nat.le_of_eq (h a ha)) (sumOn_mono fun a ha => Nat.le_of_eq (h a ha).symm)
theorem sumOn_erase {α : Type} [DecidableEq α] (f : α → Nat) {a : α} : ∀ {l : List α}, a ∈ l → sumOn f l = f a + sumOn f (l.erase a)
  | [], h => by simp at h
  | b :: l, h => by
    by_cases e : b = a
    · subst e
      simp [sumOn]
    · have h' : a ∈ l := by
        rcases List.mem_cons.mp h with z | z
        · exact absurd z.symm e
        · exact z
      have e1 : (b :: l).erase a = b :: l.erase a := by simp [List.erase_cons, e]
      rw [e1]
      show f b + sumOn f l = f a + (f b + sumOn f (l.erase a))
      rw [sumOn_erase f h']; omega
/-- a part of a list without repetition weighs less -/
theorem sumOn_sub {α : Type} [DecidableEq α] (f : α → Nat) : ∀ {A K : List α}, A.Nodup → (∀ a ∈ A, a ∈ K) → sumOn f A ≤ sumOn f K
  | [], _, _, _ => Nat.zero_le _
  | a :: A, K, hn, hs => by
    obtain ⟨h1, h2⟩ := List.nodup_cons.mp hn
    have ha := hs a (List.mem_cons_self ..)
    rw [sumOn_erase f ha]
    show f a + sumOn f A ≤ _
    have := sumOn_sub f (A := A) (K := K.erase a) h2 fun b hb => by
      have hk := hs b (List.mem_cons_of_mem _ hb)
      have ne : b ≠ a := fun e => h1 (e ▸ hb)
      exact (List.mem_erase_of_ne ne).mpr hk
    omega
/-- the items of l that lie in K are counted by K -/
theorem count_in {α : Type} [DecidableEq α] : ∀ {l K : List α}, K.Nodup → (l.filter fun a => decide (a ∈ K)).length = sumOn (fun p => l.count p) K
  | [], K, _ => by
    have : sumOn (fun p => ([] : List α).count p) K = sumOn (fun _ => 0) K := sumOn_congr fun a _ => by simp
    rw [this]
    clear this
    induction K with
    | nil => rfl
    | cons a K ih =>
      show _ = 0 + sumOn (fun _ => 0) K
      rename_i hn
      have := ih (List.nodup_cons.mp hn).2
      simp at this ⊢
      exact this
  | a :: l, K, hn => by
    have ih := count_in (l := l) hn
    by_cases h : a ∈ K
    · have e1 : ((a :: l).filter fun a => decide (a ∈ K)).length = (l.filter fun a => decide (a ∈ K)).length + 1 := by simp [List.filter_cons, h]
      rw [e1, ih, sumOn_erase _ h, sumOn_erase (fun p => (a :: l).count p) h]
      have e2 : sumOn (fun p => (a :: l).count p) (K.erase a) = sumOn (fun p => l.count p) (K.erase a) := sumOn_congr fun b hb => by
        have ne : b ≠ a := fun e => by
          rw [e] at hb
          exact ((List.Nodup.mem_erase_iff hn).mp hb).1 rfl
        rw [List.count_cons]
        have : (a == b) = false := by simpa using fun e : a = b => ne e.symm
        simp [this]
      rw [e2]
      show l.count a + _ + 1 = (a :: l).count a + _
      rw [List.count_cons_self]; omega
    · have e1 : ((a :: l).filter fun a => decide (a ∈ K)).length = (l.filter fun a => decide (a ∈ K)).length := by simp [List.filter_cons, h]
      rw [e1, ih]
      exact sumOn_congr fun b hb => by
        have ne : a ≠ b := fun e => h (e ▸ hb)
        rw [List.count_cons]
        have : (a == b) = false := by simpa using ne
        simp [this]

/-! ### moves -/
section
variable {α : Type} [DecidableEq α]
/-- what a user's places cost; the places given so far -/
abbrev Cost (α : Type) := Nat → α → Option Int
/-- user m stands at q and may go to p, for w more -/
def Edge (c : Cost α) (gl : List α) (q p : α) (w : Int) (m : Nat) : Prop := gl[m]? = some q ∧ p ≠ q ∧ ∃ a b, c m p = some a ∧ c m q = some b ∧ w = a - b
/-- prices by which no move gains -/
def Pot (c : Cost α) (gl : List α) (π : α → Int) : Prop := ∀ m q, gl[m]? = some q → ∀ b, c m q = some b → ∀ p a, c m p = some a → π p - π q ≤ a - b
theorem Pot.edge {c : Cost α} {gl : List α} {π : α → Int} (h : Pot c gl π) {q p : α} {w : Int} {m : Nat} (e : Edge c gl q p w m) : π p - π q ≤ w := by
  obtain ⟨h1, _, a, b, h2, h3, rfl⟩ := e
  exact h m q h1 b h3 p a h2
/-- the least costs so far, each with the move before -/
abbrev Best (α : Type) := α → Option (Int × Option (α × Nat))
inductive Chain (b : Best α) : α → List α → Prop
  | root {p d} : b p = some (d, none) → Chain b p [p]
  | step {p d q m l} : b p = some (d, some (q, m)) → Chain b q l → Chain b p (p :: l)
theorem Chain.uniq {b : Best α} : ∀ {p : α} {l l' : List α}, Chain b p l → Chain b p l' → l = l' := by
  intro p l l' h
  induction h generalizing l' with
  | root e =>
    intro h'
    cases h' with
    | root _ => rfl
    | step e' _ => rw [e] at e'; cases e'
  | step e t ih =>
    intro h'
    cases h' with
    | root e' => rw [e] at e'; cases e'
    | step e' t' =>
      rw [e] at e'; cases e'
      rw [ih t']
theorem Chain.mem {b : Best α} {p x : α} {l : List α} (h : Chain b p l) : x ∈ l → ∃ d s, b x = some (d, s) := by
  induction h with
  | @root y d e =>
    intro hx
    have : x = y := by simpa using hx
    subst this
    exact ⟨_, _, e⟩
  | step e t ih =>
    intro hx
    rcases List.mem_cons.mp hx with z | z
    · subst z; exact ⟨_, _, e⟩
    · exact ih z
theorem Chain.suffix {b : Best α} {p x : α} {l : List α} (h : Chain b p l) : x ∈ l → ∃ l', Chain b x l' ∧ l'.length ≤ l.length := by
  induction h with
  | @root y d e =>
    intro hx
    have : x = y := by simpa using hx
    subst this
    exact ⟨_, .root e, Nat.le_refl _⟩
  | step e t ih =>
    intro hx
    rcases List.mem_cons.mp hx with z | z
    · subst z; exact ⟨_, .step e t, Nat.le_refl _⟩
    · obtain ⟨l', h1, h2⟩ := ih z
      exact ⟨l', h1, Nat.le_succ_of_le h2⟩
theorem Chain.head {b : Best α} {p : α} {l : List α} (h : Chain b p l) : ∃ r, l = p :: r := by
  cases h with
  | root e => exact ⟨_, rfl⟩
  | step e t => exact ⟨_, rfl⟩
theorem Chain.nodup {b : Best α} {p : α} {l : List α} (h : Chain b p l) : l.Nodup := by
  induction h with
  | root e => simp
  | @step p d q m l e t ih =>
    refine List.nodup_cons.mpr ⟨fun hm => ?_, ih⟩
    obtain ⟨l', h1, h2⟩ := t.suffix hm
    have := Chain.uniq h1 (.step e t)
    rw [this] at h2
    simp at h2
    omega
theorem Chain.congr {b b' : Best α} {p : α} {l : List α} (h : Chain b p l) (k : ∀ x ∈ l, b' x = b x) : Chain b' p l := by
  induction h with
  | root e => exact .root ((k _ (by simp)).trans e)
  | step e t ih => exact .step ((k _ (by simp)).trans e) (ih fun x hx => k x (List.mem_cons_of_mem _ hx))

/-- what stands in the table of least costs while it is made -/
structure Ways (c : Cost α) (gl : List α) (u : Nat) (b : Best α) : Prop where
  root : ∀ p d, b p = some (d, none) → c u p = some d
  back : ∀ p d q m, b p = some (d, some (q, m)) → ∃ dq s w, b q = some (dq, s) ∧ Edge c gl q p w m ∧ dq + w ≤ d
  own : ∀ p a, c u p = some a → ∃ d s, b p = some (d, s) ∧ d ≤ a
  chain : ∀ p d s, b p = some (d, s) → ∃ l, Chain b p l
theorem Ways.below {c : Cost α} {gl : List α} {u : Nat} {b : Best α} (W : Ways c gl u b) {π : α → Int} (P : Pot c gl π) {q p : α} {l : List α} (h : Chain b q l) : p ∈ l → ∀ dp sp dq sq, b p = some (dp, sp) → b q = some (dq, sq) → dp - π p ≤ dq - π q := by
  induction h with
  | @root y d e =>
    intro hp dp sp dq sq e1 e2
    have : p = y := by simpa using hp
    subst this
    rw [e1] at e2; cases e2
    exact Int.le_refl _
  | @step x d y m l e t ih =>
    intro hp dp sp dq sq e1 e2
    rcases List.mem_cons.mp hp with z | z
    · subst z
      rw [e1] at e2; cases e2
      exact Int.le_refl _
    · rw [e] at e2; cases e2
      obtain ⟨dy, s, w, h1, h2, h3⟩ := W.back _ _ _ _ e
      have := ih z dp sp dy s e1 h1
      have := P.edge h2
      omega
/-- put into the table -/
def upB (b : Best α) (p : α) (e : Int × Option (α × Nat)) : Best α := fun x => if x = p then some e else b x
theorem upB_same {b : Best α} {p : α} {e : Int × Option (α × Nat)} : upB b p e p = some e := by simp [upB]
theorem upB_ne {b : Best α} {p x : α} {e : Int × Option (α × Nat)} (h : x ≠ p) : upB b p e x = b x := by simp [upB, h]
/-- one better way -/
theorem Ways.relax {c : Cost α} {gl : List α} {u : Nat} {b : Best α} (W : Ways c gl u b) {π : α → Int} (P : Pot c gl π) {q p : α} {w dq : Int} {m : Nat} {sq : Option (α × Nat)} (hq : b q = some (dq, sq)) (E : Edge c gl q p w m)
    (less : ∀ d s, b p = some (d, s) → dq + w < d) : Ways c gl u (upB b p (dq + w, some (q, m))) := by
  obtain ⟨lq, hl⟩ := W.chain _ _ _ hq
  have hpl : p ∉ lq := fun hm => by
    obtain ⟨d, s, e⟩ := hl.mem hm
    have h1 := W.below P hl hm d s dq sq e hq
    have h2 := P.edge E
    have h3 := less d s e
    omega
  have hpq : q ≠ p := fun e => E.2.1 e.symm
  have hl' : Chain (upB b p (dq + w, some (q, m))) q lq := hl.congr fun x hx => upB_ne fun e => hpl (e ▸ hx)
  have hp' : Chain (upB b p (dq + w, some (q, m))) p (p :: lq) := .step upB_same hl'
  refine ⟨fun x d e => ?_, fun x d y k e => ?_, fun x a e => ?_, fun x d s e => ?_⟩
  · by_cases hx : x = p
    · subst hx; rw [upB_same] at e; cases e
    · rw [upB_ne hx] at e; exact W.root x d e
  · by_cases hx : x = p
    · subst hx
      rw [upB_same] at e
      cases e
      exact ⟨dq, sq, w, (upB_ne hpq).trans hq, E, Int.le_refl _⟩
    · rw [upB_ne hx] at e
      obtain ⟨dy, s, v, h1, h2, h3⟩ := W.back x d y k e
      by_cases hy : y = p
      · subst hy
        have := less dy s h1
        exact ⟨dq + w, some (q, m), v, upB_same, h2, by omega⟩
      · exact ⟨dy, s, v, (upB_ne hy).trans h1, h2, h3⟩
  · obtain ⟨d, s, h1, h2⟩ := W.own x a e
    by_cases hx : x = p
    · subst hx
      have := less d s h1
      exact ⟨_, _, upB_same, by omega⟩
    · exact ⟨d, s, (upB_ne hx).trans h1, h2⟩
  · by_cases hx : x = p
    · subst hx; exact ⟨_, hp'⟩
    · rw [upB_ne hx] at e
      obtain ⟨l, h⟩ := W.chain x d s e
      clear e
      induction h with
      | @root y d' e =>
        by_cases hy : y = p
        · subst hy; exact ⟨_, hp'⟩
        · exact ⟨_, .root ((upB_ne hy).trans e)⟩
      | @step y d' z k l e t ih =>
        by_cases hy : y = p
        · subst hy; exact ⟨_, hp'⟩
        · by_cases hz : z = p
          · subst hz; exact ⟨_, .step ((upB_ne hy).trans e) hp'⟩
          · obtain ⟨l', h'⟩ := ih hz
            exact ⟨_, .step ((upB_ne hy).trans e) h'⟩
/-- at the begin: the new user's own places -/
theorem Ways.first {c : Cost α} {gl : List α} {u : Nat} : Ways c gl u (fun p => (c u p).map fun a => (a, none)) := by
  have key : ∀ {p : α} {d : Int} {s : Option (α × Nat)}, (c u p).map (fun a => (a, (none : Option (α × Nat)))) = some (d, s) → c u p = some d ∧ s = none := fun {p d s} e => by
    cases h : c u p with
    | none => rw [h] at e; cases e
    | some a => rw [h] at e; cases e; exact ⟨rfl, rfl⟩
  refine ⟨fun p d e => (key e).1, fun p d q m e => ?_, fun p a e => ⟨a, none, by simp [e], Int.le_refl _⟩, fun p d s e => ?_⟩
  · have := (key e).2
    cases this
  · obtain ⟨h1, rfl⟩ := key e
    exact ⟨_, .root e⟩
/-- no entry lies deep -/
theorem Ways.low {c : Cost α} {gl : List α} {u : Nat} {b : Best α} (W : Ways c gl u b) {B : Int} (hB : ∀ m p a, c m p = some a → 0 ≤ a ∧ a ≤ B) {p : α} {l : List α} (h : Chain b p l) : ∀ d s, b p = some (d, s) → -(B * l.length) ≤ d := by
  induction h with
  | @root p d e =>
    intro d' s e'
    rw [e] at e'; cases e'
    have := hB _ _ _ (W.root _ _ e)
    have h2 : B * (([p] : List α).length : Int) = B := by simp
    omega
  | @step x d y m l e t ih =>
    intro d' s e'
    rw [e] at e'; cases e'
    obtain ⟨dy, s, w, h1, h2, h3⟩ := W.back _ _ _ _ e
    have h4 := ih dy s h1
    obtain ⟨_, _, a, b', h5, h6, rfl⟩ := h2
    have := hB _ _ _ h5
    have := hB _ _ _ h6
    have h7 : B * ((x :: l).length : Int) = B * (l.length : Int) + B := by
      rw [List.length_cons, Int.natCast_succ, Int.mul_add, Int.mul_one]
    omega

/-- all moves are looked at: the table stands -/
def Stable (c : Cost α) (gl : List α) (b : Best α) : Prop := ∀ q dq sq, b q = some (dq, sq) → ∀ p w m, Edge c gl q p w m → ∃ d s, b p = some (d, s) ∧ d ≤ dq + w

/-- the places given, and what holds of them -/
structure Good (c : Cost α) (room : α → Nat) (gl : List α) : Prop where
  may : ∀ (m : Nat) (p : α), gl[m]? = some p → ∃ a, c m p = some a
  fits : ∀ p, gl.count p ≤ room p
  pot : ∃ π, Pot c gl π
theorem Good.nil {c : Cost α} {room : α → Nat} : Good c room [] := ⟨fun m p e => by simp at e, fun p => by simp, ⟨fun _ => 0, fun m q e => by simp at e⟩⟩

theorem count_set {α : Type} [DecidableEq α] : ∀ {l : List α} {i : Nat} {q p x : α}, l[i]? = some q → (l.set i p).count x + (if x = q then 1 else 0) = l.count x + (if x = p then 1 else 0)
  | [], i, q, p, x, e => by simp at e
  | a :: l, 0, q, p, x, e => by
    have : a = q := by simpa using e
    subst this
    show (p :: l).count x + _ = (a :: l).count x + _
    rw [List.count_cons, List.count_cons]
    have h1 : (p == x) = decide (x = p) := by
      by_cases h : x = p
      · subst h; simp
      · have : ¬ p = x := fun e => h e.symm
        simp [h, this]
    have h2 : (a == x) = decide (x = a) := by
      by_cases h : x = a
      · subst h; simp
      · have : ¬ a = x := fun e => h e.symm
        simp [h, this]
    rw [h1, h2]
    by_cases g1 : x = p <;> by_cases g2 : x = a <;> simp [g1, g2] <;> omega
  | a :: l, i + 1, q, p, x, e => by
    have e' : l[i]? = some q := by simpa using e
    have ih := count_set (p := p) (x := x) e'
    show (a :: l.set i p).count x + _ = (a :: l).count x + _
    rw [List.count_cons, List.count_cons]
    omega

/-- within the moves of one entry: place has room for one more, r the rest of the chain behind place -/
structure Moves (c : Cost α) (room : α → Nat) (gl0 : List α) (u : Nat) (b : Best α) (gl : List α) (place : α) (r : List α) : Prop where
  chain : Chain b place (place :: r)
  len : gl.length = gl0.length
  may : ∀ (m : Nat) (p : α), gl[m]? = some p → ∃ a, c m p = some a
  fits : ∀ x, gl.count x + (if x = place then 1 else 0) ≤ room x
  rest : ∀ (m : Nat) (x : α), gl0[m]? = some x → x ∈ r → gl[m]? = some x
  tight : ∀ (m : Nat) (p : α), gl[m]? = some p → gl0[m]? = some p ∨ ∃ q dq sq dp sp a a', gl0[m]? = some q ∧ b q = some (dq, sq) ∧ b p = some (dp, sp) ∧ c m q = some a' ∧ c m p = some a ∧ dq + (a - a') = dp
theorem Moves.start {c : Cost α} {room : α → Nat} {gl0 : List α} {u : Nat} {b : Best α} {place : α} {d : Int} {s : Option (α × Nat)} (G : Good c room gl0) (W : Ways c gl0 u b) (e : b place = some (d, s)) (free : gl0.count place < room place) :
    ∃ r, Moves c room gl0 u b gl0 place r := by
  obtain ⟨l, h⟩ := W.chain _ _ _ e
  obtain ⟨r, rfl⟩ := h.head
  refine ⟨r, h, rfl, G.may, fun x => ?_, fun m x e _ => e, fun m p e => .inl e⟩
  by_cases hx : x = place
  · subst hx; simp; omega
  · have := G.fits x
    simp [hx, this]
/-- one step back along the chain -/
theorem Moves.step {c : Cost α} {room : α → Nat} {gl0 gl : List α} {u : Nat} {b : Best α} {place q : α} {r : List α} {d : Int} {m : Nat} (W : Ways c gl0 u b) (S : Stable c gl0 b) (M : Moves c room gl0 u b gl place r) (e : b place = some (d, some (q, m))) :
    ∃ r', r = q :: r' ∧ gl[m]? = some q ∧ Moves c room gl0 u b (gl.set m place) q r' := by
  have hc := M.chain
  cases hc with
  | root e' => rw [e] at e'; cases e'
  | step e' t =>
    rw [e] at e'; cases e'
    obtain ⟨r', rfl⟩ := t.head
    obtain ⟨dq, sq, w, h1, h2, h3⟩ := W.back _ _ _ _ e
    have hm : gl[m]? = some q := M.rest m q h2.1 (by simp)
    have hml : m < gl.length := (List.getElem?_eq_some_iff.mp hm).1
    obtain ⟨d2, s2, g1, g2⟩ := S q dq sq h1 place w m h2
    rw [e] at g1; cases g1
    have nd : (q :: r').Nodup := t.nodup
    refine ⟨r', rfl, hm, t, by simp [M.len], fun k p ek => ?_, fun x => ?_, fun k x ek hx => ?_, fun k p ek => ?_⟩
    · by_cases hk : k = m
      · subst hk
        rw [List.getElem?_set_self hml] at ek
        cases ek
        obtain ⟨_, _, a, _, h5, _⟩ := h2
        exact ⟨a, h5⟩
      · rw [List.getElem?_set_ne (Ne.symm hk)] at ek
        exact M.may k p ek
    · have h4 := count_set (p := place) (x := x) hm
      have h5 := M.fits x
      omega
    · have hxq : x ≠ q := fun z => (List.nodup_cons.mp nd).1 (z ▸ hx)
      have hk : k ≠ m := fun z => by
        subst z
        rw [h2.1] at ek
        exact hxq (Option.some.inj ek).symm
      rw [List.getElem?_set_ne (Ne.symm hk)]
      exact M.rest k x ek (List.mem_cons_of_mem _ hx)
    · by_cases hk : k = m
      · subst hk
        rw [List.getElem?_set_self hml] at ek
        cases ek
        obtain ⟨h6, _, a, a', h7, h8, hw⟩ := h2
        exact .inr ⟨q, dq, sq, d, some (q, k), a, a', h6, h1, e, h8, h7, by omega⟩
      · rw [List.getElem?_set_ne (Ne.symm hk)] at ek
        exact M.tight k p ek
/-- a bound over finitely many -/
theorem bound_list {β : Type} (f : β → Int) : ∀ l : List β, ∃ K : Int, ∀ x ∈ l, f x ≤ K
  | [] => ⟨0, fun x hx => by simp at hx⟩
  | a :: l => by
    obtain ⟨K, h⟩ := bound_list f l
    refine ⟨if f a ≤ K then K else f a, fun x hx => ?_⟩
    rcases List.mem_cons.mp hx with z | z
    · subst z; split <;> omega
    · have := h x z
      split <;> omega
/-- the end of an entry: the new user comes to the chain's first place -/
theorem Moves.done {c : Cost α} {room : α → Nat} {gl0 gl : List α} {u : Nat} {b : Best α} {place : α} {r : List α} {d : Int} (U : List α) (hU : ∀ m p a, c m p = some a → p ∈ U) (hu : u = gl0.length) (G : Good c room gl0) (W : Ways c gl0 u b) (S : Stable c gl0 b)
    (M : Moves c room gl0 u b gl place r) (e : b place = some (d, none)) : Good c room (gl ++ [place]) := by
  have hl := M.len
  have look : ∀ {k : Nat} {p : α}, (gl ++ [place])[k]? = some p → (gl[k]? = some p) ∨ (k = u ∧ p = place) := fun {k p} ek => by
    by_cases hk : k < gl.length
    · rw [List.getElem?_append_left hk] at ek; exact .inl ek
    · rw [List.getElem?_append_right (by omega)] at ek
      obtain ⟨z, ez⟩ := List.getElem?_eq_some_iff.mp ek
      simp at z ez
      exact .inr ⟨by omega, ez.symm⟩
  refine ⟨fun k p ek => ?_, fun x => ?_, ?_⟩
  · rcases look ek with z | ⟨rfl, rfl⟩
    · exact M.may k p z
    · exact ⟨d, W.root _ _ e⟩
  · rw [List.count_append]
    have := M.fits x
    have h1 : ([place] : List α).count x = if x = place then 1 else 0 := by
      rw [List.count_cons]
      by_cases h : x = place
      · subst h; simp
      · have : ¬ place = x := fun z => h z.symm
        simp [h, this]
    omega
  · obtain ⟨π, P⟩ := G.pot
    -- how far the places that are not reached are lifted
    let f : Nat × α × α → Int := fun t => match b t.2.1, c t.1 t.2.1, c t.1 t.2.2 with
      | some (dp, _), some a, some a' => dp - π t.2.2 - a + a'
      | _, _, _ => 0
    obtain ⟨K, hK⟩ := bound_list f ((List.range (gl0.length + 1)).flatMap fun k => U.flatMap fun p => U.map fun q => (k, p, q))
    have hK' : ∀ k p q dp sp a a', k ≤ gl0.length → b p = some (dp, sp) → c k p = some a → c k q = some a' → dp - π q - a + a' ≤ K := fun k p q dp sp a a' hk h1 h2 h3 => by
      have := hK (k, p, q) (List.mem_flatMap.mpr ⟨k, by simp; omega, List.mem_flatMap.mpr ⟨p, hU _ _ _ h2, List.mem_map.mpr ⟨q, hU _ _ _ h3, rfl⟩⟩⟩)
      simpa only [f, h1, h2, h3] using this
    let π' : α → Int := fun p => match b p with
      | some (dp, _) => dp
      | none => π p + K
    refine ⟨π', fun k q ek a' ha' p a ha => ?_⟩
    have goodOf : ∀ {dq : Int} {sq : Option (α × Nat)}, b q = some (dq, sq) → (∀ dp sp, b p = some (dp, sp) → dp - dq ≤ a - a') → (b p ≠ none) → π' p - π' q ≤ a - a' := fun {dq sq} h1 h2 h3 => by
      cases hp : b p with
      | none => exact absurd hp h3
      | some x =>
        obtain ⟨dp, sp⟩ := x
        have := h2 dp sp hp
        simpa only [π', hp, h1] using this
    rcases look ek with z | ⟨rfl, rfl⟩
    · rcases M.tight k q z with z0 | ⟨q0, dq0, sq0, dq, sq, b1, b0, z0, hb0, hb, hc0, hc1, ht⟩
      · cases hq : b q with
        | some x =>
          obtain ⟨dq, sq⟩ := x
          by_cases hpq : p = q
          · subst hpq
            rw [ha] at ha'; cases ha'
            omega
          · obtain ⟨dp, sp, h1, h2⟩ := S q dq sq hq p (a - a') k ⟨z0, hpq, a, a', ha, ha', rfl⟩
            exact goodOf hq (fun dp' sp' h => by rw [h1] at h; cases h; omega) (by rw [h1]; simp)
        | none =>
          cases hp : b p with
          | none =>
            have := P k q z0 a' ha' p a ha
            show π' p - π' q ≤ a - a'
            simp only [π', hp, hq]
            omega
          | some x =>
            obtain ⟨dp, sp⟩ := x
            have hk0 : k ≤ gl0.length := Nat.le_of_lt (List.getElem?_eq_some_iff.mp z0).1
            have := hK' k p q dp sp a a' hk0 hp ha ha'
            show π' p - π' q ≤ a - a'
            simp only [π', hp, hq]
            omega
      · rw [ha'] at hc1; cases hc1
        have hpb : ∃ dp sp, b p = some (dp, sp) ∧ dp ≤ dq0 + (a - b0) := by
          by_cases hp0 : p = q0
          · subst hp0
            rw [ha] at hc0; cases hc0
            exact ⟨dq0, sq0, hb0, by omega⟩
          · exact S q0 dq0 sq0 hb0 p (a - b0) k ⟨z0, hp0, a, b0, ha, hc0, rfl⟩
        obtain ⟨dp, sp, h1, h2⟩ := hpb
        exact goodOf hb (fun dp' sp' h => by rw [h1] at h; cases h; omega) (by rw [h1]; simp)
    · obtain ⟨dp, sp, h1, h2⟩ := W.own p a ha
      have h3 := W.root _ _ e
      rw [ha'] at h3; cases h3
      exact goodOf e (fun dp' sp' h => by rw [h1] at h; cases h; omega) (by rw [h1]; simp)
end
end K31
set_option linter.all false
namespace K31
section
variable {α : Type} [DecidableEq α]
/-! ### crowds -/
/-- the places that some user of S may have -/
def allowedOf (pl : List α) (c : Cost α) (S : List Nat) : List α := pl.filter fun p => S.any fun u => (c u p).isSome
/-- too little room for S -/
def tooMany (pl : List α) (room : α → Nat) (c : Cost α) (S : List Nat) : Bool := decide (sumOn room (allowedOf pl c S) < S.length)
theorem allowed_nodup {pl : List α} {c : Cost α} {S : List Nat} (h : pl.Nodup) : (allowedOf pl c S).Nodup := h.filter _
theorem mem_allowed {pl : List α} {c : Cost α} {S : List Nat} {p : α} : p ∈ allowedOf pl c S ↔ p ∈ pl ∧ ∃ u ∈ S, ∃ a, c u p = some a := by
  unfold allowedOf
  rw [List.mem_filter, List.any_eq_true]
  constructor
  · rintro ⟨h, u, hu, e⟩
    obtain ⟨a, ha⟩ := Option.isSome_iff_exists.mp e
    exact ⟨h, u, hu, a, ha⟩
  · rintro ⟨h, u, hu, a, ha⟩
    exact ⟨h, u, hu, by rw [ha]; rfl⟩
theorem filter_range {β : Type} (P : β → Bool) : ∀ (l : List β), ((List.range l.length).filter fun m => match l[m]? with | some x => P x | none => false).length = (l.filter P).length := by
  intro l
  induction l with
  | nil => rfl
  | cons a l ih =>
    rw [List.length_cons, List.range_succ_eq_map, List.filter_cons]
    have e : (List.filter (fun m => match (a :: l)[m]? with | some x => P x | none => false) (List.map Nat.succ (List.range l.length))).length = ((List.range l.length).filter fun m => match l[m]? with | some x => P x | none => false).length := by
      rw [List.filter_map, List.length_map]
      rfl
    by_cases h : P a = true
    · simp only [List.getElem?_cons_zero, h, if_true, List.length_cons]
      rw [e, ih, List.filter_cons, if_pos h, List.length_cons]
    · have h' : P a = false := by simpa using h
      simp only [List.getElem?_cons_zero, h', Bool.false_eq_true, if_false]
      rw [e, ih, List.filter_cons, if_neg (by simp [h'])]
/-- the users at places of K, and the new one -/
def crowdOf (gl : List α) (K : α → Bool) : List Nat := ((List.range gl.length).filter fun m => match gl[m]? with | some x => K x | none => false) ++ [gl.length]
theorem crowd_found {c : Cost α} {room : α → Nat} {gl : List α} {b : Best α} {pl : List α} (hpl : pl.Nodup) (W : Ways c gl gl.length b) (S : Stable c gl b) (Ks : List α) (hK : Ks.Nodup) (hKb : ∀ p, p ∈ Ks ↔ ∃ d s, b p = some (d, s))
    (full : ∀ p ∈ Ks, room p ≤ gl.count p) (may : ∀ (m : Nat) (p : α), gl[m]? = some p → ∃ a, c m p = some a) : tooMany pl room c (crowdOf gl fun p => decide (p ∈ Ks)) = true := by
  unfold tooMany
  refine decide_eq_true ?_
  have h1 : sumOn room (allowedOf pl c (crowdOf gl fun p => decide (p ∈ Ks))) ≤ sumOn room Ks := by
    refine sumOn_sub room (allowed_nodup hpl) fun p hp => ?_
    obtain ⟨_, u, hu, a, ha⟩ := mem_allowed.mp hp
    rw [hKb]
    rcases List.mem_append.mp hu with z | z
    · obtain ⟨hm, hx⟩ := List.mem_filter.mp z
      cases hq : gl[u]? with
      | none => rw [hq] at hx; cases hx
      | some q =>
        rw [hq] at hx
        have hqK : q ∈ Ks := by simpa using hx
        obtain ⟨dq, sq, e⟩ := (hKb q).mp hqK
        by_cases hpq : p = q
        · subst hpq; exact ⟨dq, sq, e⟩
        · obtain ⟨a', ha'⟩ := may u q hq
          obtain ⟨d, s, g, _⟩ := S q dq sq e p (a - a') u ⟨hq, hpq, a, a', ha, ha', rfl⟩
          exact ⟨d, s, g⟩
    · have : u = gl.length := by simpa using z
      subst this
      obtain ⟨d, s, g, _⟩ := W.own p a ha
      exact ⟨d, s, g⟩
  have h2 : sumOn room Ks ≤ sumOn (fun p => gl.count p) Ks := sumOn_mono full
  have h3 := count_in (l := gl) hK
  have h4 : (crowdOf gl fun p => decide (p ∈ Ks)).length = (gl.filter fun a => decide (a ∈ Ks)).length + 1 := by
    unfold crowdOf
    rw [List.length_append, filter_range]
    rfl
  omega
theorem count_part {gl : List α} {S : List Nat} (hn : S.Nodup) (hS : ∀ u ∈ S, u < gl.length) (d p : α) : (S.map fun u => gl.getD u d).count p ≤ gl.count p := by
  have e1 : ∀ (T : List Nat), (T.map fun u => gl.getD u d).count p = sumOn (fun u => if gl.getD u d = p then 1 else 0) T := by
    intro T
    induction T with
    | nil => rfl
    | cons u T ih =>
      rw [List.map_cons, List.count_cons, ih]
      show _ = (if gl.getD u d = p then 1 else 0) + _
      generalize gl.getD u d = y
      have : (y == p) = decide (y = p) := by
        by_cases h : y = p
        · rw [decide_eq_true h, h]; simp
        · rw [decide_eq_false h]; simpa using h
      rw [this]
      by_cases h : y = p
      · rw [decide_eq_true h, if_pos rfl, if_pos h]; omega
      · rw [decide_eq_false h, if_neg h]; simp
  have e2 : gl = (List.range gl.length).map fun u => gl.getD u d := by
    refine List.ext_getElem (by simp) fun i h1 h2 => ?_
    simp [List.getD_eq_getElem?_getD, List.getElem?_eq_getElem h1]
  have e3 := e1 (List.range gl.length)
  rw [← e2] at e3
  rw [e1 S, e3]
  exact sumOn_sub _ hn fun u hu => List.mem_range.mpr (hS u hu)
/-- all users have places: no set of them is a crowd -/
theorem no_crowd {c : Cost α} {room : α → Nat} {gl : List α} {pl : List α} (hU : ∀ m p a, c m p = some a → p ∈ pl) (hpl : pl.Nodup) (may : ∀ (m : Nat) (p : α), gl[m]? = some p → ∃ a, c m p = some a) (fits : ∀ p, gl.count p ≤ room p)
    {S : List Nat} (hn : S.Nodup) (hS : ∀ u ∈ S, u < gl.length) : tooMany pl room c S = false := by
  unfold tooMany
  refine decide_eq_false ?_
  cases S with
  | nil => simp
  | cons s0 S0 =>
    have hs0 := hS s0 (List.mem_cons_self ..)
    let d : α := gl[s0]
    generalize hS' : s0 :: S0 = S at *
    have hT : ∀ q ∈ S.map fun u => gl.getD u d, q ∈ allowedOf pl c S := fun q hq => by
      obtain ⟨u, hu, e⟩ := List.mem_map.mp hq
      have hu' := hS u hu
      have e2 : gl[u]? = some q := by
        rw [List.getElem?_eq_getElem hu']
        rw [← e, List.getD_eq_getElem?_getD, List.getElem?_eq_getElem hu']
        rfl
      obtain ⟨a, ha⟩ := may u q e2
      exact mem_allowed.mpr ⟨hU _ _ _ ha, u, hu, a, ha⟩
    have h1 := count_in (l := S.map fun u => gl.getD u d) (allowed_nodup (c := c) (S := S) hpl)
    have h2 : ((S.map fun u => gl.getD u d).filter fun a => decide (a ∈ allowedOf pl c S)) = S.map fun u => gl.getD u d := List.filter_eq_self.mpr fun q hq => decide_eq_true (hT q hq)
    rw [h2, List.length_map] at h1
    have h3 : sumOn (fun p => (S.map fun u => gl.getD u d).count p) (allowedOf pl c S) ≤ sumOn room (allowedOf pl c S) := sumOn_mono fun p _ => Nat.le_trans (count_part hn hS d p) (fits p)
    omega

/-! ### all nonempty ascending rows of users below n -/
def setsUpTo : Nat → List (List Nat)
  | 0 => [[]]
  | n + 1 => setsUpTo n ++ (setsUpTo n).map fun r => r ++ [n]
def Asc (S : List Nat) : Prop := S.Pairwise (· < ·)
theorem setsUpTo_iff : ∀ {n : Nat} {S : List Nat}, S ∈ setsUpTo n ↔ Asc S ∧ ∀ u ∈ S, u < n
  | 0, S => by
    show S ∈ [[]] ↔ _
    constructor
    · intro h
      have : S = [] := by simpa using h
      subst this
      exact ⟨List.Pairwise.nil, fun u hu => by simp at hu⟩
    · rintro ⟨_, h⟩
      cases S with
      | nil => simp
      | cons a S => exact absurd (h a (List.mem_cons_self ..)) (Nat.not_lt_zero _)
  | n + 1, S => by
    show S ∈ setsUpTo n ++ (setsUpTo n).map (fun r => r ++ [n]) ↔ _
    rw [List.mem_append, List.mem_map]
    constructor
    · rintro (h | ⟨r, h, rfl⟩)
      · obtain ⟨h1, h2⟩ := setsUpTo_iff.mp h
        exact ⟨h1, fun u hu => Nat.lt_succ_of_lt (h2 u hu)⟩
      · obtain ⟨h1, h2⟩ := setsUpTo_iff.mp h
        refine ⟨List.pairwise_append.mpr ⟨h1, by simp, fun a ha b hb => ?_⟩, fun u hu => ?_⟩
        · have : b = n := by simpa using hb
          rw [this]; exact h2 a ha
        · rcases List.mem_append.mp hu with z | z
          · exact Nat.lt_succ_of_lt (h2 u z)
          · have : u = n := by simpa using z
            omega
    · rintro ⟨h1, h2⟩
      by_cases hn : n ∈ S
      · obtain ⟨l, r, e⟩ := List.append_of_mem hn
        have hr : r = [] := by
          cases r with
          | nil => rfl
          | cons x r =>
            have h3 := h1
            rw [e] at h3
            have h4 := (List.pairwise_append.mp h3).2.1
            have h5 := (List.pairwise_cons.mp h4).1 x (List.mem_cons_self ..)
            have h6 := h2 x (by rw [e]; simp)
            omega
        subst hr
        refine .inr ⟨l, setsUpTo_iff.mpr ?_, by rw [e]⟩
        rw [e] at h1 h2
        obtain ⟨h3, _, h4⟩ := List.pairwise_append.mp h1
        exact ⟨h3, fun u hu => h4 u hu n (by simp)⟩
      · refine .inl (setsUpTo_iff.mpr ⟨h1, fun u hu => ?_⟩)
        have h3 := h2 u hu
        have : u ≠ n := fun e => hn (e ▸ hu)
        omega
/-- Python: found = [()]; for who in range(n): found = found + [row + (who,) for row in found]; found[1:] -/
theorem setsUpTo_head : ∀ n : Nat, ∃ r, setsUpTo n = [] :: r
  | 0 => ⟨[], rfl⟩
  | n + 1 => by
    obtain ⟨r, h⟩ := setsUpTo_head n
    exact ⟨_, by show setsUpTo n ++ _ = _; rw [h]; rfl⟩
theorem setsUpTo_nodup : ∀ n : Nat, (setsUpTo n).Nodup
  | 0 => by simp [setsUpTo]
  | n + 1 => by
    show (setsUpTo n ++ (setsUpTo n).map fun r => r ++ [n]).Nodup
    refine List.nodup_append.mpr ⟨setsUpTo_nodup n, ?_, fun a ha b hb => ?_⟩
    · exact List.Pairwise.map _ (fun a b h e => h (List.append_cancel_right e)) (setsUpTo_nodup n)
    · rintro rfl
      obtain ⟨r, _, e⟩ := List.mem_map.mp hb
      have := (setsUpTo_iff.mp ha).2 n (by rw [← e]; simp)
      omega
def everyOf (n : Nat) : List (List Nat) := (setsUpTo n).drop 1
theorem everyOf_iff {n : Nat} {S : List Nat} : S ∈ everyOf n ↔ S ≠ [] ∧ Asc S ∧ ∀ u ∈ S, u < n := by
  obtain ⟨r, h⟩ := setsUpTo_head n
  have hn := setsUpTo_nodup n
  have e : everyOf n = r := by unfold everyOf; rw [h]; rfl
  rw [e, ← setsUpTo_iff, h]
  rw [h] at hn
  constructor
  · intro hS
    refine ⟨fun z => ?_, List.mem_cons_of_mem _ hS⟩
    subst z
    exact (List.nodup_cons.mp hn).1 hS
  · rintro ⟨h1, h2⟩
    rcases List.mem_cons.mp h2 with z | z
    · exact absurd z h1
    · exact z
theorem crowdOf_asc (gl : List α) (K : α → Bool) : Asc (crowdOf gl K) := by
  unfold crowdOf
  refine List.pairwise_append.mpr ⟨?_, by simp, fun a ha b hb => ?_⟩
  · exact List.Pairwise.filter _ (List.pairwise_lt_range)
  · have h1 := List.mem_range.mp (List.mem_filter.mp ha).1
    have : b = gl.length := by simpa using hb
    omega
theorem crowdOf_lt {gl : List α} {K : α → Bool} {n : Nat} (h : gl.length < n) : ∀ u ∈ crowdOf gl K, u < n := fun u hu => by
  rcases List.mem_append.mp hu with z | z
  · have := List.mem_range.mp (List.mem_filter.mp z).1
    omega
  · have : u = gl.length := by simpa using z
    omega
theorem crowdOf_ne {gl : List α} {K : α → Bool} : crowdOf gl K ≠ [] := by
  unfold crowdOf
  simp
theorem asc_nodup {S : List Nat} (h : Asc S) : S.Nodup := List.Pairwise.imp (fun h e => absurd (e ▸ h) (Nat.lt_irrefl _)) h

/-! ### measures -/
/-- the table of ways as a list: keys without repetition, in order -/
abbrev WL (α : Type) := List (α × (Int × Option (α × Nat)))
def look (l : WL α) : Best α := fun p => (l.find? fun e => decide (e.1 = p)).map (·.2)
def putL (l : WL α) (p : α) (e : Int × Option (α × Nat)) : WL α := if l.any (fun x => decide (x.1 = p)) then l.map (fun x => if x.1 = p then (p, e) else x) else l ++ [(p, e)]
theorem look_none {l : WL α} {p : α} : look l p = none ↔ l.any (fun x => decide (x.1 = p)) = false := by
  unfold look
  rw [Option.map_eq_none_iff, List.find?_eq_none, List.any_eq_false]
theorem look_mem {l : WL α} {p : α} {e : Int × Option (α × Nat)} (h : look l p = some e) : (p, e) ∈ l := by
  unfold look at h
  obtain ⟨x, h1, h2⟩ := Option.map_eq_some_iff.mp h
  have h3 := List.find?_some h1
  have h4 := List.mem_of_find?_eq_some h1
  have : x.1 = p := of_decide_eq_true h3
  rw [← this, ← h2]
  exact h4
theorem mem_look : ∀ {l : WL α} {p : α} {e : Int × Option (α × Nat)}, (l.map (·.1)).Nodup → (p, e) ∈ l → look l p = some e
  | [], _, _, _, h => by simp at h
  | x :: l, p, e, hn, h => by
    obtain ⟨h1, h2⟩ := List.nodup_cons.mp (show (x.1 :: l.map (·.1)).Nodup from hn)
    unfold look
    rw [List.find?_cons]
    by_cases hx : x.1 = p
    · rw [decide_eq_true hx]
      rcases List.mem_cons.mp h with z | z
      · rw [← z]; rfl
      · exact absurd (List.mem_map.mpr ⟨_, z, hx.symm⟩) h1
    · rw [decide_eq_false hx]
      rcases List.mem_cons.mp h with z | z
      · rw [← z] at hx; exact absurd rfl hx
      · exact mem_look h2 z
theorem look_putL {l : WL α} {p : α} {e : Int × Option (α × Nat)} : look (putL l p e) = upB (look l) p e := by
  funext x
  unfold putL
  by_cases h : l.any (fun x => decide (x.1 = p)) = true
  · rw [if_pos h]
    have gen : ∀ l : WL α, look (l.map fun x => if x.1 = p then (p, e) else x) x = if x = p then (if l.any (fun x => decide (x.1 = p)) = true then some e else none) else look l x := by
      intro l
      induction l with
      | nil => by_cases hx : x = p <;> simp [look, hx]
      | cons y l ih =>
        unfold look at ih ⊢
        rw [List.map_cons, List.find?_cons]
        by_cases hy : y.1 = p
        · rw [if_pos hy]
          by_cases hx : x = p
          · subst hx
            simp [hy]
          · have : ¬ p = x := fun z => hx z.symm
            rw [decide_eq_false this, List.find?_cons]
            have h2 : ¬ y.1 = x := fun z => hx (z.symm.trans hy)
            rw [decide_eq_false h2]
            rw [ih]
            simp [hx]
        · rw [if_neg hy]
          by_cases hxy : y.1 = x
          · have hx : ¬ x = p := fun z => hy (hxy.trans z)
            rw [decide_eq_true hxy]
            simp [hx, hxy]
          · rw [decide_eq_false hxy]
            simp only []
            rw [ih, List.any_cons, decide_eq_false hy, Bool.false_or, List.find?_cons, decide_eq_false hxy]
    rw [gen]
    unfold upB
    rw [h]
    simp
  · have h' : l.any (fun x => decide (x.1 = p)) = false := Bool.eq_false_iff.mpr h
    rw [if_neg h]
    unfold look upB
    rw [List.find?_append]
    by_cases hx : x = p
    · subst hx
      have := look_none.mpr h'
      unfold look at this
      rw [Option.map_eq_none_iff] at this
      rw [this]
      simp
    · have : ¬ p = x := fun z => hx z.symm
      have e2 : List.find? (fun e => decide (e.1 = x)) [(p, e)] = none := by
        rw [List.find?_cons, decide_eq_false this]
        rfl
      rw [e2, Option.or_none, if_neg hx]
def wsum (L : Int) (l : WL α) : Nat := sumOn (fun e => (e.2.1 + L).toNat) l
/-- falls at every change of the table -/
def wmeas (N : Nat) (L : Nat) (l : WL α) : Nat := (N - l.length) * (2 * L + 1) + wsum L l
theorem putL_len {l : WL α} {p : α} {e : Int × Option (α × Nat)} : (putL l p e).length = if look l p = none then l.length + 1 else l.length := by
  unfold putL
  by_cases h : l.any (fun x => decide (x.1 = p)) = true
  · rw [if_pos h, if_neg (fun z => by rw [look_none] at z; rw [z] at h; cases h), List.length_map]
  · rw [if_neg h, if_pos (look_none.mpr (Bool.eq_false_iff.mpr h)), List.length_append]; rfl
theorem putL_keys {l : WL α} {p : α} {e : Int × Option (α × Nat)} : (putL l p e).map (·.1) = if look l p = none then l.map (·.1) ++ [p] else l.map (·.1) := by
  unfold putL
  by_cases h : l.any (fun x => decide (x.1 = p)) = true
  · rw [if_pos h, if_neg (fun z => by rw [look_none] at z; rw [z] at h; cases h), List.map_map]
    refine List.map_congr_left fun x _ => ?_
    show (if x.1 = p then (p, e) else x).1 = x.1
    by_cases hx : x.1 = p
    · rw [if_pos hx, hx]
    · rw [if_neg hx]
  · rw [if_neg h, if_pos (look_none.mpr (Bool.eq_false_iff.mpr h)), List.map_append]; rfl
theorem wsum_put {L : Nat} : ∀ {l : WL α} {p : α} {d d' : Int} {s s' : Option (α × Nat)}, (l.map (·.1)).Nodup → look l p = some (d, s) → d' < d → -(L : Int) ≤ d' → wsum L (l.map fun x => if x.1 = p then (p, (d', s')) else x) < wsum L l
  | [], _, _, _, _, _, _, h, _, _ => by simp [look] at h
  | y :: l, p, d, d', s, s', hn, h, hd, hL => by
    obtain ⟨h1, h2⟩ := List.nodup_cons.mp (show (y.1 :: l.map (·.1)).Nodup from hn)
    rw [List.map_cons]
    unfold look at h
    rw [List.find?_cons] at h
    by_cases hy : y.1 = p
    · rw [decide_eq_true hy] at h
      have hy2 : y.2 = (d, s) := by simpa using h
      rw [if_pos hy]
      have e : (l.map fun x => if x.1 = p then (p, (d', s')) else x) = l := by
        have : ∀ x ∈ l, (if x.1 = p then (p, (d', s')) else x) = x := fun x hx => if_neg fun z => h1 (List.mem_map.mpr ⟨x, hx, z.trans hy.symm⟩)
        rw [List.map_congr_left this]
        simp
      rw [e]
      show (d' + L).toNat + wsum L l < (y.2.1 + L).toNat + wsum L l
      rw [hy2]
      show (d' + L).toNat + wsum L l < (d + L).toNat + wsum L l
      omega
    · rw [decide_eq_false hy] at h
      rw [if_neg hy]
      have := wsum_put (s' := s') h2 (show look l p = some (d, s) from h) hd hL
      show (y.2.1 + L).toNat + wsum L (l.map fun x => if x.1 = p then (p, (d', s')) else x) < (y.2.1 + L).toNat + wsum L l
      omega
theorem wmeas_put {N L : Nat} {l : WL α} {p : α} {d' : Int} {s' : Option (α × Nat)} (hn : (l.map (·.1)).Nodup) (less : ∀ d s, look l p = some (d, s) → d' < d) (hL : -(L : Int) ≤ d') (hU : d' ≤ L) (hlen : look l p = none → l.length < N) :
    wmeas N L (putL l p (d', s')) < wmeas N L l := by
  unfold wmeas
  cases h : look l p with
  | none =>
    have e : putL l p (d', s') = l ++ [(p, (d', s'))] := by
      unfold putL
      rw [if_neg (by rw [look_none.mp h]; decide)]
    have hl := hlen h
    rw [e]
    unfold wsum
    rw [sumOn_append, List.length_append]
    show (N - (l.length + 1)) * (2 * L + 1) + (sumOn _ l + ((d' + L).toNat + 0)) < _
    have h3 : (d' + L).toNat ≤ 2 * L := by omega
    have h4 : (N - l.length) = (N - (l.length + 1)) + 1 := by omega
    rw [h4, Nat.add_mul]
    omega
  | some x =>
    obtain ⟨d, s⟩ := x
    have e : putL l p (d', s') = l.map fun x => if x.1 = p then (p, (d', s')) else x := by
      unfold putL
      rw [if_pos]
      cases q : l.any (fun x => decide (x.1 = p)) with
      | true => rfl
      | false => rw [look_none.mpr q] at h; cases h
    have h3 := wsum_put (s' := s') hn h (less d s h) hL
    rw [e, List.length_map]
    omega

/-! ### the prices -/
/-- what holds of the prices while they are made: no price falls below a floor -/
def PrOk (f : α → Int) (π : α → Int) (lo : Int) (pl : List α) : Prop := ∀ p ∈ pl, lo ≤ f p + π p
theorem PrOk.step {c : Cost α} {gl : List α} {f π : α → Int} {lo : Int} {pl : List α} (h : PrOk f π lo pl) (P : Pot c gl π) {q p : α} {w : Int} {m : Nat} (E : Edge c gl q p w m) (hp : p ∈ pl) : PrOk (fun x => if x = q then f p + w else f x) π lo pl := fun x hx => by
  by_cases e : x = q
  · subst e
    have h1 := h p hp
    have h2 := P.edge E
    simp only [if_true]
    omega
  · simp only [if_neg e]
    exact h x hx
def prMeas (f : α → Int) (L : Int) (pl : List α) : Nat := sumOn (fun p => (f p + L).toNat) pl
theorem prMeas_lt {f : α → Int} {L : Int} {pl : List α} {q : α} {v : Int} (hq : q ∈ pl) (less : v < f q) (hv : 0 ≤ v + L) : prMeas (fun x => if x = q then v else f x) L pl < prMeas f L pl := by
  unfold prMeas
  induction pl with
  | nil => simp at hq
  | cons a pl ih =>
    show ((if a = q then v else f a) + L).toNat + sumOn _ pl < (f a + L).toNat + sumOn _ pl
    have mono : sumOn (fun p => ((if p = q then v else f p) + L).toNat) pl ≤ sumOn (fun p => (f p + L).toNat) pl := sumOn_mono fun p _ => by
      by_cases e : p = q
      · subst e; simp; omega
      · simp [e]
    by_cases ea : a = q
    · subst ea
      simp only [if_true]
      omega
    · have hq' : q ∈ pl := by
        rcases List.mem_cons.mp hq with z | z
        · exact absurd z.symm ea
        · exact z
      have h3 : sumOn (fun p => ((if p = q then v else f p) + L).toNat) pl < sumOn (fun p => (f p + L).toNat) pl := ih hq'
      simp only [ea, if_false]
      omega
end
end K31
set_option Elab.async false
set_option linter.all false
set_option maxRecDepth 100000
set_option maxHeartbeats 4000000
/-! Short words over the layer: readings piece by piece, what is frozen, what is framed. -/
namespace K31
open PySem PySem.Spec PyProof.Rows L2 He

/-! ### heaps -/
abbrev Sub (H H' : Hp) : Prop := ∀ a o, H a = some o → H' a = some o
theorem Sub.refl (H : Hp) : Sub H H := fun _ _ h => h
theorem Sub.trans {H H1 H2 : Hp} (a : Sub H H1) (b : Sub H1 H2) : Sub H H2 := fun x o h => b x o (a x o h)
theorem Sub.new {H : Hp} {p : Addr} {o : HO} (h : H p = none) : Sub H (upd H p o) := fun a u e => by
  rw [upd_ne (ne_of_none e h)]; exact e
theorem Sub.fresh {H H' : Hp} {p : Addr} (s : Sub H H') (h : H' p = none) : H p = none := by
  cases e : H p with
  | none => rfl
  | some o => rw [s p o e] at h; cases h
/-- an object that H does not know may change -/
theorem Sub.mut {H H' : Hp} {p : Addr} {o : HO} (s : Sub H H') (h : H p = none) : Sub H (upd H' p o) := fun a u e => by
  rw [upd_ne (ne_of_none e h)]; exact s a u e
theorem Sub.l {K : PySem.W.Frag} {H H' : Hp} {a : Addr} {xs : List V} (s : Sub H H') (h : SqL K H a xs) : SqL K H' a xs := by
  rcases h with (h | ⟨o, h⟩) | h
  · exact .inl (.inl (s _ _ h))
  · exact .inl (.inr ⟨o, s _ _ h⟩)
  · exact .inr h
theorem Sub.t {K : PySem.W.Frag} {H H' : Hp} {a : Addr} {xs : List V} (s : Sub H H') (h : SqT K H a xs) : SqT K H' a xs := by
  rcases h with (h | ⟨o, h⟩) | h
  · exact .inl (.inl (s _ _ h))
  · exact .inl (.inr ⟨o, s _ _ h⟩)
  · exact .inr h
theorem Sub.rd {H H' : Hp} {a : Addr} {u : HO} (s : Sub H H') (h : Rd H a u) : Rd H' a u := by
  rcases h with h | ⟨o, h⟩
  · exact .inl (s _ _ h)
  · exact .inr ⟨o, s _ _ h⟩
/-- all but lists stay -/
abbrev SubN (H H' : Hp) : Prop := ∀ a o, H a = some o → (∀ xs, o ≠ HO.lst xs) → H' a = some o
theorem Sub.n {H H' : Hp} (s : Sub H H') : SubN H H' := fun a o h _ => s a o h
theorem subN_upd {H : Hp} {p : Addr} {xs ys : List V} (h : H p = some (.lst xs)) : SubN H (upd H p (.lst ys)) := fun a o e n => by
  rw [upd_ne (fun z => by rw [z, h] at e; exact n xs (Option.some.inj e).symm)]; exact e
theorem sz {n : Nat} (h : n ≤ 100000) : n ≤ sizeLine := Nat.le_trans h (by decide)
theorem szl {n : Nat} (h : n < 100000) : n < sizeLine := Nat.lt_of_lt_of_le h (by decide)

/-! ### dicts with text keys, frozen -/
def kS {β : Type} (f : β → V) (l : List (Str × β)) : List (Key × V) := l.map fun e => (Sum.inr e.1, f e.2)
/-- a frozen dict with text keys -/
def FDf {β : Type} (f : β → V) (H : Hp) (a : Addr) (l : List (Str × β)) : Prop := ∃ o, H a = some (.frz o (.dK (kS f l)))
abbrev FD (H : Hp) (a : Addr) (l : List (Str × V)) : Prop := FDf id H a l
theorem Sub.f {β : Type} {f : β → V} {H H' : Hp} {a : Addr} {l : List (Str × β)} (s : Sub H H') (h : FDf f H a l) : FDf f H' a l := let ⟨o, e⟩ := h; ⟨o, s _ _ e⟩
theorem FDf.rd {β : Type} {f : β → V} {H : Hp} {a : Addr} {l : List (Str × β)} (h : FDf f H a l) : Rd H a (.dK (kS f l)) := let ⟨o, e⟩ := h; .inr ⟨o, e⟩
/-- the value at a key -/
def aGet {β : Type} (l : List (Str × β)) (k : Str) : Option β := (l.find? fun e => decide (e.1 = k)).map (·.2)
def aPut {β : Type} (l : List (Str × β)) (k : Str) (v : β) : List (Str × β) := if l.any (fun e => decide (e.1 = k)) = true then l.map (fun e => if e.1 = k then (e.1, v) else e) else l ++ [(k, v)]
theorem valV_kS {β : Type} (f : β → V) (k : Str) : ∀ l : List (Str × β), valV (kS f l) (Sum.inr k) = (aGet l k).map f
  | [] => rfl
  | e :: l => by
    have ih := valV_kS f k l
    unfold aGet
    by_cases h : e.1 = k
    · rw [List.find?_cons, decide_eq_true h]
      exact valV_pos (p := ((Sum.inr e.1 : Key), f e.2)) (congrArg Sum.inr h)
    · rw [List.find?_cons, decide_eq_false h]
      rw [show kS f (e :: l) = ((Sum.inr e.1 : Key), f e.2) :: kS f l from rfl, valV_neg (p := ((Sum.inr e.1 : Key), f e.2)) (fun z => h (Sum.inr.inj z)), ih]
      rfl
theorem any_kS {β : Type} (f : β → V) (k : Str) (l : List (Str × β)) : (kS f l).any (fun kv => decide (kv.1 = Sum.inr k)) = l.any (fun e => decide (e.1 = k)) := by
  unfold kS
  rw [List.any_map]
  congr 1
  funext e
  show decide ((Sum.inr e.1 : Key) = Sum.inr k) = decide (e.1 = k)
  by_cases h : e.1 = k
  · rw [decide_eq_true h, decide_eq_true (congrArg Sum.inr h)]
  · rw [decide_eq_false h, decide_eq_false fun z => h (Sum.inr.inj z)]
theorem putK_kS {β : Type} (f : β → V) (l : List (Str × β)) (k : Str) (v : β) : putK (kS f l) (Sum.inr k) (f v) = kS f (aPut l k v) := by
  unfold putK aPut
  rw [any_kS]
  by_cases h : l.any (fun e => decide (e.1 = k)) = true
  · rw [if_pos h, if_pos h]
    unfold kS
    rw [List.map_map, List.map_map]
    refine List.map_congr_left fun e _ => ?_
    show (if (Sum.inr e.1 : Key) = Sum.inr k then _ else _) = ((Sum.inr (if e.1 = k then (e.1, v) else e).1 : Key), f (if e.1 = k then (e.1, v) else e).2)
    by_cases g : e.1 = k
    · rw [if_pos (congrArg Sum.inr g), if_pos g]
    · rw [if_neg (fun z => g (Sum.inr.inj z)), if_neg g]
  · rw [if_neg h, if_neg h]
    unfold kS
    rw [List.map_append]
    rfl
theorem aGet_put {β : Type} (l : List (Str × β)) (k j : Str) (v : β) : aGet (aPut l k v) j = if j = k then some v else aGet l j := by
  -- by the values' own lemma, at V
  have gen : ∀ l : List (Str × β), aGet (l.map fun e => if e.1 = k then (e.1, v) else e) j = if j = k then (if l.any (fun e => decide (e.1 = k)) = true then some v else none) else aGet l j := by
    intro l
    induction l with
    | nil => by_cases h : j = k <;> simp [aGet, h]
    | cons e l ih =>
      unfold aGet at ih ⊢
      rw [List.map_cons, List.find?_cons, List.find?_cons, List.any_cons]
      by_cases g : e.1 = k
      · rw [if_pos g]
        by_cases h : e.1 = j
        · have hj : j = k := h.symm.trans g
          rw [decide_eq_true (show (e.1, v).1 = j from h), if_pos hj, decide_eq_true g]
          rfl
        · have hj : ¬ j = k := fun z => h (g.trans z.symm)
          rw [decide_eq_false (show ¬ (e.1, v).1 = j from h), if_neg hj]
          show Option.map _ (List.find? _ _) = Option.map _ (List.find? _ _)
          rw [ih, if_neg hj]
      · rw [if_neg g]
        by_cases h : e.1 = j
        · have hj : ¬ j = k := fun z => g (h.trans z)
          rw [decide_eq_true h, if_neg hj]
        · rw [decide_eq_false h, ih, decide_eq_false g, Bool.false_or]
  unfold aPut
  by_cases h : l.any (fun e => decide (e.1 = k)) = true
  · rw [if_pos h, gen, if_pos h]
  · rw [if_neg h]
    unfold aGet
    rw [List.find?_append]
    by_cases hj : j = k
    · subst hj
      have e0 : List.find? (fun e => decide (e.1 = j)) l = none := List.find?_eq_none.mpr fun x hx hd => h (List.any_eq_true.mpr ⟨x, hx, hd⟩)
      rw [e0, if_pos rfl, List.find?_cons, decide_eq_true (show (j, v).1 = j from rfl)]
      rfl
    · rw [if_neg hj, List.find?_cons, decide_eq_false (show ¬ (k, v).1 = j from fun z => hj z.symm)]
      show Option.map _ (Option.or _ none) = _
      rw [Option.or_none]
theorem aGet_mem {β : Type} {l : List (Str × β)} {k : Str} {v : β} (h : aGet l k = some v) : (k, v) ∈ l := by
  unfold aGet at h
  obtain ⟨x, h1, h2⟩ := Option.map_eq_some_iff.mp h
  have h3 := List.find?_some h1
  have : x.1 = k := of_decide_eq_true h3
  rw [← this, ← h2]
  exact List.mem_of_find?_eq_some h1
theorem aGet_some {β : Type} {l : List (Str × β)} {k : Str} (h : k ∈ l.map (·.1)) : ∃ v, aGet l k = some v := by
  obtain ⟨x, hx, e⟩ := List.mem_map.mp h
  cases q : aGet l k with
  | some v => exact ⟨v, rfl⟩
  | none =>
    unfold aGet at q
    rw [Option.map_eq_none_iff, List.find?_eq_none] at q
    exact absurd (decide_eq_true e) (q x hx)
theorem aGet_none {β : Type} {l : List (Str × β)} {k : Str} (h : ¬ k ∈ l.map (·.1)) : aGet l k = none := by
  cases q : aGet l k with
  | none => rfl
  | some v => exact absurd (List.mem_map.mpr ⟨_, aGet_mem q, rfl⟩) h
theorem aGet_map {β γ : Type} (g : β → γ) (k : Str) (l : List (Str × β)) : aGet (l.map fun e => (e.1, g e.2)) k = (aGet l k).map g := by
  unfold aGet
  rw [List.find?_map, Option.map_map, Option.map_map]
  rfl
theorem dget_f {β : Type} {f : β → V} {H : Hp} {a : Addr} {l : List (Str × β)} (h : FDf f H a l) (k : Str) : DGet H a (.str k) ((aGet l k).map f) := by
  obtain ⟨o, e⟩ := h
  refine .inl ⟨kS f l, Sum.inr k, .inr ⟨o, e⟩, rfl, ?_⟩
  rw [valV_kS]
theorem dget_d {β : Type} {f : β → V} {H : Hp} {a : Addr} {l : List (Str × β)} (h : H a = some (.dK (kS f l))) (k : Str) : DGet H a (.str k) ((aGet l k).map f) := by
  refine .inl ⟨kS f l, Sum.inr k, .inl h, rfl, ?_⟩
  rw [valV_kS]
theorem dput_d {β : Type} {f : β → V} {H : Hp} {a : Addr} {l : List (Str × β)} (h : H a = some (.dK (kS f l))) (k : Str) (v : β) (hl : l.length < 100000) : DPut H a (.str k) (f v) (upd H a (.dK (kS f (aPut l k v)))) := by
  rw [← putK_kS]
  exact DPut.k (k := Sum.inr k) h (by unfold kS; rw [List.length_map]; exact szl hl)

/-! ### what is frozen from now on -/
def tFreeze (t : TE) : TE := fun σ H Q => t σ H fun v H1 => ∃ d u, v = .ref d ∧ H1 d = some u ∧ Mut (some u) ∧ ∀ o, Q v (upd H1 d (.frz o u))
theorem pe_freeze {X : Cx} {e : Expr} {t : TE} (h : PE X e t) : PE X e (tFreeze t) := by
  refine ⟨fun pins s σ H Q I hw => thn (h.run pins s σ H _ I hw) fun u s1 ⟨v, H1, I1, r, d, o, ev, hd, mu, q⟩ => ?_⟩
  obtain ⟨od, I2⟩ := I1.lock hd mu
  exact ⟨v, _, I2, r, q od⟩

/-! ### readings -/
theorem rd_ite {b : Bool} {A B : Prop} (h1 : b = true → A) (h2 : b = false → B) : if b = true then A else B := by
  cases b with
  | true => exact h1 rfl
  | false => exact h2 rfl
/-- an expression that leaves all that stands: its value is told by P -/
def EvP (te : TE) (σ : L2.St) (H : Hp) (P : V → Hp → Prop) : Prop := ∀ Q : VK, (∀ v H', Sub H H' → P v H' → Q v H') → te σ H Q
def EvB (tt : TT) (σ : L2.St) (H : Hp) (b : Bool) : Prop := ∀ Q : Bool → Hp → Prop, (∀ H', Sub H H' → Q b H') → tt σ H Q
theorem evB_yes {σ : L2.St} {H : Hp} : EvB tYes σ H true := fun _ q => q H (Sub.refl H)
theorem wipe_self {σ : L2.St} {j : Nat} {x : Option V} : wipe ((wipe σ [j]).set j x) [j] = wipe σ [j] := by
  show (((σ.set j none).set j x).set j none) = σ.set j none
  rw [List.set_set, List.set_set]
theorem wipe_self2 {σ : L2.St} {i j : Nat} {x y : Option V} : wipe (((wipe σ [i, j]).set i x).set j y) [i, j] = wipe σ [i, j] := by
  show ((((((σ.set j none).set i none).set i x).set j y).set j none).set i none) = ((σ.set j none).set i none)
  refine List.ext_getElem? fun k => ?_
  simp only [List.getElem?_set, List.length_set]
  by_cases h1 : i = k <;> by_cases h2 : j = k <;> simp [h1, h2]
section
variable {J : It} {n : Nat} {G : Hp → Prop} {f : Nat → V} {tt : TT} {te tk tv : TE} {σ : L2.St} {H : Hp} {j : Nat}
/-- a comprehension over a walk that leaves the heap: R by the turn, the items so far -/
theorem k_lc {Qd : Addr → Hp → Prop} (w : Walk J n G (YFn f)) (hG : ∀ H', Sub H H' → G H') (keep : Nat → Bool) (R : Nat → List V → Hp → Prop) (hm : ∀ i ys H1 H2, SubN H1 H2 → R i ys H1 → R i ys H2) (h0 : R 0 [] H) (hn : n ≤ 1000)
    (ht : ∀ i H', i < n → Sub H H' → EvB tt ((wipe σ [j]).set j (some (f i))) H' (keep i))
    (he : ∀ i ys H', i < n → keep i = true → Sub H H' → R i ys H' → EvP te ((wipe σ [j]).set j (some (f i))) H' fun y H4 => R (i + 1) (ys ++ [y]) H4)
    (hno : ∀ i ys H', i < n → keep i = false → R i ys H' → R (i + 1) ys H')
    (hd : ∀ D ys H', H D = none → Sub H H' → H' D = some (.lst ys) → R n ys H' → Qd D H') : ∀ D, H D = none →
    ∃ W : Nat → Nat → Hp → Prop, (∃ m, W 0 m (upd H D (.lst []))) ∧ ∀ i m H, W i m H →
      (J.stop i H ∧ Qd D H) ∨ (J.go i H ∧ ∃ Nx : Hp → Prop, (∀ H', Nx H' → ∃ m', m' < m ∧ W (i + 1) m' H') ∧ ∀ x H', J.yld i H x H' → gName j x (wipe σ [j]) H' fun σ2 H2 => wipe σ2 [j] = wipe σ [j] ∧ tt σ2 H2 fun b H3 =>
        if b = true then te σ2 H3 fun y H4 => ∃ acc, H4 D = some (.lst acc) ∧ acc.length < sizeLine ∧ Nx (upd H4 D (.lst (acc ++ [y]))) else Nx H3) := fun D hD => by
  refine lc_it w (fun i H' => ∃ ys, H' D = some (.lst ys) ∧ ys.length ≤ i ∧ Sub H H' ∧ R i ys H') ⟨[], upd_same, Nat.le_refl _, Sub.new hD, hm _ _ _ _ (Sub.new hD).n h0⟩ (fun i H' _ ⟨_, _, _, s, _⟩ => hG H' s) ?_ (fun H' ⟨ys, e, _, s, r⟩ => hd D ys H' hD s e r)
  rintro i x H1 H' hi ⟨ys, e, hl, s, r⟩ ⟨rfl, rfl⟩
  refine ⟨wipe_self, ht i H' hi s _ fun H3 s3 => ?_⟩
  refine rd_ite (fun hk => ?_) (fun hk => ⟨ys, s3 _ _ e, Nat.le_succ_of_le hl, s.trans s3, hno i ys H3 hi hk (hm _ _ _ _ s3.n r)⟩)
  refine he i ys H3 hi hk (s.trans s3) (hm _ _ _ _ s3.n r) _ fun y H4 s4 r4 => ⟨ys, s4 _ _ (s3 _ _ e), szl (by omega), ys ++ [y], upd_same, by rw [List.length_append]; exact Nat.succ_le_succ hl, ((s.trans s3).trans s4).mut hD, hm _ _ _ _ (subN_upd (s4 _ _ (s3 _ _ e))) r4⟩
/-- .. whose items hang on the data alone -/
theorem k_lcD {Qd : Addr → Hp → Prop} {β : Type} [Inhabited β] {data : List β} {toV : β → V} (w : Walk J data.length G (YFn fun i => toV (data.getD i default))) (hG : ∀ H', Sub H H' → G H') (keep : β → Bool) (val : β → V) (hn : data.length ≤ 1000)
    (ht : ∀ (i : Nat) (d : β) (H' : Hp), data[i]? = some d → Sub H H' → EvB tt ((wipe σ [j]).set j (some (toV d))) H' (keep d))
    (he : ∀ (i : Nat) (d : β) (H' : Hp), data[i]? = some d → keep d = true → Sub H H' → EvP te ((wipe σ [j]).set j (some (toV d))) H' fun y _ => y = val d)
    (hd : ∀ D H', H D = none → Sub H H' → H' D = some (.lst ((data.filter keep).map val)) → Qd D H') : ∀ D, H D = none →
    ∃ W : Nat → Nat → Hp → Prop, (∃ m, W 0 m (upd H D (.lst []))) ∧ ∀ i m H, W i m H →
      (J.stop i H ∧ Qd D H) ∨ (J.go i H ∧ ∃ Nx : Hp → Prop, (∀ H', Nx H' → ∃ m', m' < m ∧ W (i + 1) m' H') ∧ ∀ x H', J.yld i H x H' → gName j x (wipe σ [j]) H' fun σ2 H2 => wipe σ2 [j] = wipe σ [j] ∧ tt σ2 H2 fun b H3 =>
        if b = true then te σ2 H3 fun y H4 => ∃ acc, H4 D = some (.lst acc) ∧ acc.length < sizeLine ∧ Nx (upd H4 D (.lst (acc ++ [y]))) else Nx H3) := by
  have gd : ∀ {i : Nat} (hi : i < data.length), data.getD i default = data[i] := fun {i} hi => by
    rw [List.getD_eq_getElem?_getD, List.getElem?_eq_getElem hi]; rfl
  have tk : ∀ {i : Nat} {d : β}, data[i]? = some d → data.take (i + 1) = data.take i ++ [d] := fun {i d} e => by
    rw [List.take_add_one, e]; rfl
  refine k_lc w hG (fun i => match data[i]? with | some d => keep d | none => false) (fun i ys _ => ys = ((data.take i).filter keep).map val) (fun _ _ _ _ _ r => r) rfl hn (fun i H' hi s => ?_) (fun i ys H' hi hk s r => ?_) (fun i ys H' hi hk r => ?_) (fun D ys H' h1 h2 h3 r => ?_)
  · have e : data[i]? = some data[i] := List.getElem?_eq_getElem hi
    simp only [e]
    show EvB tt ((wipe σ [j]).set j (some (toV (data.getD i default)))) H' _
    rw [gd hi]
    exact ht i _ H' e s
  · have e : data[i]? = some data[i] := List.getElem?_eq_getElem hi
    simp only [e] at hk
    intro Q q
    show te ((wipe σ [j]).set j (some (toV (data.getD i default)))) H' Q
    rw [gd hi]
    refine he i _ H' e hk s Q fun v H4 s4 ev => q v H4 s4 ?_
    subst ev r
    rw [tk e, List.filter_append, List.map_append, List.filter_cons, if_pos hk]
    rfl
  · have e : data[i]? = some data[i] := List.getElem?_eq_getElem hi
    simp only [e] at hk
    subst r
    rw [tk e, List.filter_append, List.filter_cons, if_neg (by rw [hk]; decide)]
    simp
  · subst r
    rw [List.take_length] at h3
    exact hd D H' h1 h2 h3
end
/-- walks that leave the heap, by a function -/
theorem walkL {K : PySem.W.Frag} {a : Addr} {β : Type} [Inhabited β] {data : List β} {f : β → V} : Walk (Itl K a) data.length (fun H => SqL K H a (data.map f)) (YFn fun i => f (data.getD i default)) := by
  have w := walk_list (K := K) (a := a) (xs := data.map f)
  rw [List.length_map] at w
  refine w.mono (fun _ h => h) fun i H x H' hi _ y => ⟨y.1, ?_⟩
  have := y.2
  rw [List.getElem?_map, List.getElem?_eq_getElem hi] at this
  show x = f (data.getD i default)
  rw [List.getD_eq_getElem?_getD, List.getElem?_eq_getElem hi]
  exact (Option.some.inj this).symm
theorem walkT {K : PySem.W.Frag} {a : Addr} {β : Type} [Inhabited β] {data : List β} {f : β → V} : Walk (Itt K a) data.length (fun H => SqT K H a (data.map f)) (YFn fun i => f (data.getD i default)) := by
  have w := walk_tup (K := K) (a := a) (xs := data.map f)
  rw [List.length_map] at w
  refine w.mono (fun _ h => h) fun i H x H' hi _ y => ⟨y.1, ?_⟩
  have := y.2
  rw [List.getElem?_map, List.getElem?_eq_getElem hi] at this
  show x = f (data.getD i default)
  rw [List.getD_eq_getElem?_getD, List.getElem?_eq_getElem hi]
  exact (Option.some.inj this).symm
theorem walkK {d : Addr} {o : Obj} {β : Type} [Inhabited β] {g : β → V} {l : List (Str × β)} : Walk (Itk d o (kS g l)) l.length (fun H => H d = some (.frz o (.dK (kS g l)))) (YFn fun i => .str (l.getD i default).1) := by
  have w := walk_keys (d := d) (o := o) (kvs := kS g l)
  rw [show (kS g l).length = l.length from List.length_map _] at w
  refine w.mono (fun _ h => h) fun i H x H' hi _ y => ⟨y.1, ?_⟩
  obtain ⟨_, k, v, e, rfl⟩ := y
  unfold kS at e
  rw [List.getElem?_map, List.getElem?_eq_getElem hi] at e
  have e2 : ((Sum.inr l[i].1 : Key), g l[i].2) = (k, v) := Option.some.inj e
  obtain ⟨rfl, _⟩ := Prod.mk.inj e2
  show _ = V.str (l.getD i default).1
  rw [List.getD_eq_getElem?_getD, List.getElem?_eq_getElem hi]
  rfl
end K31
set_option Elab.async false
set_option linter.all false
set_option maxRecDepth 100000
set_option maxHeartbeats 4000000
namespace K31
open PySem PySem.Spec PyProof.Rows L2 He
open C8 (Cal Met Mak pe_c pe_mk pe_mt pe_mt0)
section
variable {P : Program} {w : World} {K : PySem.W.Frag} {mg : Str → Option Value} {base : Heap}
/-- a def of the text, by its body -/
theorem cal_of {x : Str} {st : Stmt} {N ps : List Str} {k : Nat} {sp : Sp} (F : FnP K x x st [] (ga K x)) (hm : mg x = some (.ref (ga K x))) (S : FnScope N ps (defScope st)) (len : ∀ vs H Q E, sp vs H Q E → vs.length = ps.length)
    (bd : ∀ (kV doc pm : Value) (an : Option Addr) (cdv ct : Value) (us : List Value), us.length = ps.length → bindArgs (PySem.W.fnOf x x (defArgs st) (defBody st) (defScope st) .none kV doc pm an cdv ct) ⟨us, []⟩ = pure (ps.zip us))
    (hbody : ∀ (f : Addr) (cdv : Value) (A : Around) (outer : List Env) (s : Shared) (H : Hp) (vs : List V) (Q : VK) (E : XK), Room k (A.deeper (envOfC x (defScope st) s.heap.objs.size f cdv)) → sp vs H Q E →
      ∃ t, PSs (cxOf CX0 P w K mg base N x (defScope st) f cdv A outer s H E).nox (defBody st) t ∧ t { nx := fun _ H' => Q .non H', rt := Q } (L2.start N vs) H) : Cal P w K mg base (k + 1) x sp [] := by
  obtain ⟨fd, F⟩ := F
  refine ⟨ga K x, fd, ps, [], F.ok S len fun cdv A outer s H vs Q E hr h => ?_, hm, F.kp, F.bindsN bd, .nil⟩
  obtain ⟨t, h1, h2⟩ := hbody _ cdv A outer s H vs Q E hr h
  exact ⟨t, h1.nox, h2⟩


/-- never reached -/
theorem pe_never {X : Cx} {e : Expr} : PE X e (fun _ _ _ => False) := ⟨fun _ _ _ _ _ _ h => h.elim⟩
/-- a dict with text keys that is read, frozen or not -/
abbrev RD {β : Type} (f : β → V) (H : Hp) (a : Addr) (l : List (Str × β)) : Prop := Rd H a (.dK (kS f l))
theorem dget_r {β : Type} {f : β → V} {H : Hp} {a : Addr} {l : List (Str × β)} (h : RD f H a l) (k : Str) : DGet H a (.str k) ((aGet l k).map f) :=
  .inl ⟨kS f l, Sum.inr k, h, rfl, by rw [valV_kS]⟩
/-- len of a dict, frozen or not -/
theorem call_lenR {X : Cx} : CallR X (.builtin "len") (fun xs H Q => ∃ a kvs, xs = [V.ref a] ∧ Rd H a (.dK kvs) ∧ Q (.int kvs.length) H) := by
  intro pins s σ H xs us Q I r h
  obtain ⟨a, kvs, rfl, ha, q⟩ := h
  obtain ⟨u, rfl, ru⟩ := vals1 r
  cases ru
  exact d_len I ha fun t s' I' => ⟨.int kvs.length, H, I', ⟨t, rfl⟩, q⟩
/-- all but dicts stay -/
abbrev SubD (H H' : Hp) : Prop := ∀ a o, H a = some o → (∀ kvs, o ≠ HO.dK kvs) → H' a = some o
theorem Sub.d {H H' : Hp} (s : Sub H H') : SubD H H' := fun a o h _ => s a o h
theorem subD_upd {H : Hp} {p : Addr} {xs ys : List (Key × V)} (h : H p = some (.dK xs)) : SubD H (upd H p (.dK ys)) := fun a o e n => by
  rw [upd_ne (fun z => by rw [z, h] at e; exact n xs (Option.some.inj e).symm)]; exact e
end
section
variable {J : It} {n : Nat} {G : Hp → Prop} {tt : TT} {te tk tv : TE} {σ : L2.St} {H : Hp} {j : Nat}
/-- a dict comprehension over a walk: R by the turn, the pairs so far; the target as it is -/
theorem dc_it {Y : Nat → Hp → V → Hp → Prop} (w : Walk J n G Y) {g : TG} {vs : List Nat} {H1 : Hp} {D : Addr} {Qd : Hp → Prop} (Pv : Nat → Hp → Prop) (h0 : Pv 0 (upd H1 D (.dK []))) (hG : ∀ i H, i ≤ n → Pv i H → G H)
    (hs : ∀ i x H H', i < n → Pv i H → Y i H x H' → g x (wipe σ vs) H' fun σ2 H2 => wipe σ2 vs = wipe σ vs ∧ tt σ2 H2 fun b H3 =>
      if b = true then tk σ2 H3 fun y H4 => tv σ2 H4 fun z H5 => ∃ kvs k, y = kV k ∧ H5 D = some (.dK kvs) ∧ kvs.length < sizeLine ∧ Pv (i + 1) (upd H5 D (.dK (putK kvs k z))) else Pv (i + 1) H3) (hd : ∀ H, Pv n H → Qd H) :
    ∃ W : Nat → Nat → Hp → Prop, (∃ m, W 0 m (upd H1 D (.dK []))) ∧ ∀ i m H, W i m H →
      (J.stop i H ∧ Qd H) ∨ (J.go i H ∧ ∃ Nx : Hp → Prop, (∀ H', Nx H' → ∃ m', m' < m ∧ W (i + 1) m' H') ∧ ∀ x H', J.yld i H x H' → g x (wipe σ vs) H' fun σ2 H2 => wipe σ2 vs = wipe σ vs ∧ tt σ2 H2 fun b H3 =>
        if b = true then tk σ2 H3 fun y H4 => tv σ2 H4 fun z H5 => ∃ kvs k, y = kV k ∧ H5 D = some (.dK kvs) ∧ kvs.length < sizeLine ∧ Nx (upd H5 D (.dK (putK kvs k z))) else Nx H3) := by
  refine ⟨fun i m H => m = n - i ∧ i ≤ n ∧ Pv i H, ⟨n, by simp, Nat.zero_le _, h0⟩, ?_⟩
  rintro i m H ⟨rfl, hi, p⟩
  have q := hG i H hi p
  by_cases hlt : i < n
  · exact .inr ⟨w.goes i H hlt q, Pv (i + 1), fun H' p' => ⟨n - (i + 1), by omega, rfl, hlt, p'⟩, fun x H' y => hs i x H H' hlt p (w.yields i H x H' hlt q y)⟩
  · have e : i = n := by omega
    subst e
    exact .inl ⟨w.stops H q, hd H p⟩
theorem aPut_new {β : Type} {l : List (Str × β)} {k : Str} {v : β} (h : k ∉ l.map (·.1)) : aPut l k v = l ++ [(k, v)] := by
  unfold aPut
  rw [if_neg]
  intro z
  obtain ⟨x, hx, e⟩ := List.any_eq_true.mp z
  exact h (List.mem_map.mpr ⟨x, hx, of_decide_eq_true e⟩)
/-- .. of text keys, told by the data -/
theorem k_dcD {Qd : Addr → Hp → Prop} {β γ : Type} [Inhabited β] {data : List β} {toV : β → V} (w : Walk J data.length G (YFn fun i => toV (data.getD i default))) (hG : ∀ H', Sub H H' → G H') (keep : β → Bool) (key : β → Str) (fv : γ → V) (val : β → γ) (hn : data.length ≤ 1000)
    (nd : ((data.filter keep).map key).Nodup)
    (ht : ∀ (i : Nat) (d : β) (H' : Hp), data[i]? = some d → Sub H H' → EvB tt ((wipe σ [j]).set j (some (toV d))) H' (keep d))
    (hk : ∀ (i : Nat) (d : β) (H' : Hp), data[i]? = some d → keep d = true → Sub H H' → EvP tk ((wipe σ [j]).set j (some (toV d))) H' fun y _ => y = .str (key d))
    (he : ∀ (i : Nat) (d : β) (H' : Hp), data[i]? = some d → keep d = true → Sub H H' → EvP tv ((wipe σ [j]).set j (some (toV d))) H' fun y _ => y = fv (val d))
    (hd : ∀ D H', H D = none → Sub H H' → H' D = some (.dK (kS fv ((data.filter keep).map fun d => (key d, val d)))) → Qd D H') : ∀ D, H D = none →
    ∃ W : Nat → Nat → Hp → Prop, (∃ m, W 0 m (upd H D (.dK []))) ∧ ∀ i m H, W i m H →
      (J.stop i H ∧ Qd D H) ∨ (J.go i H ∧ ∃ Nx : Hp → Prop, (∀ H', Nx H' → ∃ m', m' < m ∧ W (i + 1) m' H') ∧ ∀ x H', J.yld i H x H' → gName j x (wipe σ [j]) H' fun σ2 H2 => wipe σ2 [j] = wipe σ [j] ∧ tt σ2 H2 fun b H3 =>
        if b = true then tk σ2 H3 fun y H4 => tv σ2 H4 fun z H5 => ∃ kvs k, y = kV k ∧ H5 D = some (.dK kvs) ∧ kvs.length < sizeLine ∧ Nx (upd H5 D (.dK (putK kvs k z))) else Nx H3) := fun D hD => by
  have gd : ∀ {i : Nat} (hi : i < data.length), data.getD i default = data[i] := fun {i} hi => by
    rw [List.getD_eq_getElem?_getD, List.getElem?_eq_getElem hi]; rfl
  have tkk : ∀ {i : Nat} {d : β}, data[i]? = some d → data.take (i + 1) = data.take i ++ [d] := fun {i d} e => by
    rw [List.take_add_one, e]; rfl
  let pairs : Nat → List (Str × γ) := fun i => ((data.take i).filter keep).map fun d => (key d, val d)
  have plen : ∀ i, i ≤ data.length → (pairs i).length ≤ i := fun i hi => by
    show (((data.take i).filter keep).map _).length ≤ i
    rw [List.length_map]
    have h1 := List.length_filter_le keep (data.take i)
    rw [List.length_take] at h1
    omega
  refine dc_it w (fun i H' => H' D = some (.dK (kS fv (pairs i))) ∧ Sub H H') ⟨upd_same, Sub.new hD⟩ (fun i H' _ ⟨_, s⟩ => hG H' s) ?_ (fun H' ⟨e, s⟩ => ?_)
  · rintro i x H1 H' hi ⟨e, s⟩ ⟨rfl, ex⟩
    have ex2 : x = toV data[i] := Eq.trans ex (congrArg toV (gd hi))
    subst ex2
    have ei : data[i]? = some data[i] := List.getElem?_eq_getElem hi
    refine ⟨wipe_self, ?_⟩
    refine ht i _ H' ei s _ fun H3 s3 => ?_
    refine rd_ite (fun hkp => ?_) (fun hkp => ?_)
    · refine hk i _ H3 ei hkp (s.trans s3) _ fun y H4 s4 ey => ?_
      subst ey
      refine he i _ H4 ei hkp ((s.trans s3).trans s4) _ fun z H5 s5 ez => ?_
      subst ez
      have e5 := s5 _ _ (s4 _ _ (s3 _ _ e))
      refine ⟨_, Sum.inr (key data[i]), rfl, e5, szl (by unfold kS; rw [List.length_map]; have := plen i (by omega); omega), ?_, (((s.trans s3).trans s4).trans s5).mut hD⟩
      rw [upd_same, putK_kS, aPut_new]
      · have : pairs (i + 1) = pairs i ++ [(key data[i], val data[i])] := by
          show ((data.take (i + 1)).filter keep).map _ = _
          rw [tkk ei, List.filter_append, List.map_append, List.filter_cons, if_pos hkp]
          rfl
        rw [this]
      · intro hm
        have h1 : data = data.take i ++ data[i] :: data.drop (i + 1) := by
          rw [← List.drop_eq_getElem_cons hi, List.take_append_drop]
        rw [h1, List.filter_append, List.filter_cons, if_pos hkp, List.map_append, List.map_cons] at nd
        have h2 := (List.nodup_append.mp nd).2.2
        have h3 : key data[i] ∈ ((data.take i).filter keep).map key := by
          have h4 : ((pairs i).map (·.1)) = ((data.take i).filter keep).map key := by
            show List.map _ (List.map _ _) = _
            rw [List.map_map]; rfl
          rw [h4] at hm
          exact hm
        exact h2 _ h3 _ (List.mem_cons_self ..) rfl
    · refine ⟨?_, s.trans s3⟩
      have : pairs (i + 1) = pairs i := by
        show ((data.take (i + 1)).filter keep).map _ = _
        rw [tkk ei, List.filter_append, List.filter_cons, if_neg (by rw [hkp]; decide)]
        simp [pairs]
      rw [this]
      exact s3 _ _ e
  · have : pairs data.length = (data.filter keep).map fun d => (key d, val d) := by
      show ((data.take data.length).filter keep).map _ = _
      rw [List.take_length]
    rw [this] at e
    exact hd D H' hD s e
end
theorem walkS {z : Str} : Walk (Its z) z.cps.toList.length (fun _ => True) (YFn fun i => .str ⟨#[z.cps.toList.getD i default]⟩) := by
  have w := walk_str (z := z)
  rw [← Array.length_toList] at w
  refine w.mono (fun _ h => h) fun i H x H' hi _ y => ⟨y.1, ?_⟩
  obtain ⟨_, c, e, rfl⟩ := y
  show V.str _ = V.str _
  rw [List.getD_eq_getElem?_getD, Array.getElem?_toList, e]
  rfl
end K31
set_option Elab.async false
set_option linter.all false
set_option maxRecDepth 100000
set_option maxHeartbeats 4000000
/-! Rules that the layer lacks, and names for the readings of its own. -/
namespace K31
open PySem PySem.Spec PyProof.Rows L2 He
section
variable {X : Cx}
theorem Room.units2 {k : Nat} {A : Around} (r : Room k A) : A.units + 65 < cLine := by have := r.un; omega
def kLenL (K : PySem.W.Frag) : List V → Hp → VK → Prop := fun xs H Q => ∃ p ys, xs = [.ref p] ∧ (SqL K H p ys ∨ SqT K H p ys) ∧ Q (.int ys.length) H
theorem c_lenL : CallR X (.builtin "len") (kLenL X.K) := call_len_seq
def kLenS : List V → Hp → VK → Prop := fun xs H Q => ∃ z, xs = [.str z] ∧ z.length ≤ sizeLine ∧ Q (.int z.length) H
theorem c_lenS : CallR X (.builtin "len") kLenS := call_len_str
def kLen (K : PySem.W.Frag) : List V → Hp → VK → Prop := fun xs H Q => ∃ x n, xs = [x] ∧ LenV K x H n ∧ Q (.int n) H
theorem c_len : CallR X (.builtin "len") (kLen X.K) := L2.call_len
def kLenR : List V → Hp → VK → Prop := fun xs H Q => ∃ a kvs, xs = [V.ref a] ∧ Rd H a (.dK kvs) ∧ Q (.int kvs.length) H
theorem c_lenR : CallR X (.builtin "len") kLenR := call_lenR
def kTuple (K : PySem.W.Frag) : List V → Hp → VK → Prop := fun xs H Q => ∃ p ys, xs = [.ref p] ∧ ((SqL K H p ys ∧ ∀ l, H l = none → Q (.ref l) (upd H l (.tup ys))) ∨ (SqT K H p ys ∧ Q (.ref p) H))
theorem c_tuple : CallR X (.type "tuple") (kTuple X.K) := call_tuple_of
def kListL (K : PySem.W.Frag) : List V → Hp → VK → Prop := fun xs H Q => ∃ p ys, xs = [.ref p] ∧ (SqL K H p ys ∨ SqT K H p ys) ∧ ∀ l, H l = none → Q (.ref l) (upd H l (.lst ys))
theorem c_listL : CallR X (.type "list") (kListL X.K) := call_list_of
def kListD : List V → Hp → VK → Prop := fun xs H Q => ∃ (a : Addr) (kvs : List (Key × V)), xs = [.ref a] ∧ Rd H a (.dK kvs) ∧ ∀ p, H p = none → Q (.ref p) (upd H p (.lst (kvs.map fun kv => kV kv.1)))
theorem c_listD (hc : X.calm = true) : CallR X (.type "list") kListD := call_listD hc
def kDictD : List V → Hp → VK → Prop := fun xs H Q => ∃ (a : Addr) (kvs : List (Key × V)), xs = [.ref a] ∧ Rd H a (.dK kvs) ∧ ∀ p, H p = none → Q (.ref p) (upd H p (.dK kvs))
theorem c_dictD : CallR X (.type "dict") kDictD := call_dictD
def kSortedD : List V → Hp → VK → Prop := fun xs H Q => ∃ (a : Addr) (kvs : List (Key × V)) (ks : List Str), xs = [.ref a] ∧ Rd H a (.dK kvs) ∧ kvs.map (·.1) = ks.map Sum.inr ∧ ks.length < 64 ∧ ∀ ys p, ys.Perm ks → sortedS ys = true → H p = none → Q (.ref p) (upd H p (.lst (ys.map V.str)))
theorem c_sortedD (hc : X.calm = true) : CallR X (.builtin "sorted") kSortedD := call_sortedD hc
def kAbs : List V → Hp → VK → Prop := fun xs H Q => ∃ i, xs = [.int i] ∧ Q (.int (if i < 0 then -i else i)) H
theorem c_abs : CallR X (.builtin "abs") kAbs := call_abs
def rAddT : R2 := fun x y H Q => ∃ i j, x = .str i ∧ y = .str j ∧ i.length + j.length ≤ sizeLine ∧ Q (.str (i ++ j)) H
theorem op_addS : OpR X (binaryOp .Add) rAddT := op_add_str
/-- a class of the text, as a value -/
theorem pe_cls {x : Str} {C : Addr} {pos : Pos} (hg : Gl X x) (hm : X.mg x = some (.ref C)) (hd : (x == ("__debug__" : Str)) = false := by decide) : PE X (.Name x pos) (tC (.ref C)) := pe_glob hg hm rfl hd
/-- name = {k: v for ..} on one line, the name a local -/
theorem ps_setDc {i : Nat} {y : Str} {py : Pos} {kx vx tg iter : Expr} {ifs : List Expr} {scope : Scope} {own : List (Str × Nat)} {pos spos : Pos} {wi : TI} {g : TG} {tt : TT} {tk tv : TE} (hc : X.calm = true) (hN : X.N.Nodup) (hy : X.N[i]? = some y) (hyl : X.env.scope.names.lookup y = some .local)
    (hsw : swapsWith (.DictComp kx vx [⟨tg, iter, ifs, 0⟩] scope pos) (some (.Name y py)) spos.line X.env = pure true) (hi : PI X tg iter wi) (ok : BlkOk X.N X.env.scope scope own)
    (hg : ∀ (s : Shared) (H : Hp) (C : Addr) (cl : List (Str × Addr)) (fp : List Addr), PG (X.blk s H scope (compEnvC scope cl C X.env) fp) tg g) (ht : ∀ (s : Shared) (H : Hp) (C : Addr) (cl : List (Str × Addr)) (fp : List Addr), PTs (X.blk s H scope (compEnvC scope cl C X.env) fp) ifs tt)
    (hk : ∀ (s : Shared) (H : Hp) (C : Addr) (cl : List (Str × Addr)) (fp : List Addr), PE (X.blk s H scope (compEnvC scope cl C X.env) fp) kx tk)
    (he : ∀ (s : Shared) (H : Hp) (C : Addr) (cl : List (Str × Addr)) (fp : List Addr), PE (X.blk s H scope (compEnvC scope cl C X.env) fp) vx tv) (hs : ∀ x, foldedSetIterable iter X.env x = pure x := by intro _; rfl) :
    PS X (.Assign [.Name y py] (.DictComp kx vx [⟨tg, iter, ifs, 0⟩] scope pos) spos) (tAsg (tDc wi g tt tk tv (own.map (·.2))) (gName i)) := by
  refine ⟨fun pins s σ H D I h => ?_⟩
  rw [exec_Assign_Name_used _ _ _ _ hsw]
  refine wpAny_bind (wpAny_standAt (wpAny_bind ?_))
  show wpAny _ X.A (do let _ ← comprehension (.DictComp kx vx [⟨tg, iter, ifs, 0⟩] scope pos) scope X.env (firstIterPos [⟨tg, iter, ifs, 0⟩] pos) newDict false (eval iter X.env) (some (assign (.Name y py) X.env))) _ _ s
  have h : tDc wi g tt tk tv (own.map (·.2)) σ H (fun x H1 => gName i x σ H1 D.nx) := h
  refine wpAny_bind (thn (dc_core (Qf := fun _ s' => SP X pins D .next s') hc hN I hi ok hg ht hk he hs h fun L C s' m H' I' q hn f => ?_) fun _ s' hq => wpAny_pure (wpAny_pure hq))
  show wpAny _ _ (assign (.Name y py) X.env (.ref L)) _ _ _
  refine wpAny_assign_Name (store_ok2 (v := V.ref L) I' hN hy (.inl hyl) rfl (fun s2 I2 ⟨a, sb, ha⟩ => ?_) (.inr hyl))
  obtain ⟨f0, f1, f2, f3, f4, f5⟩ := f
  have haC : C ≠ a := by
    rcases ha with z | z
    · rw [z]; exact f1
    · exact fun e => f4 y a z e.symm
  refine ⟨m, hn.sameBut sb haC, fun h3 sb3 => ?_⟩
  exact ⟨_, H', I2.turned (t' := s2.toks) (fun b o hb e => (sb3.2 b hb).trans e) f0 f1 f3 f4 f5, q⟩
theorem sw_trueD {kx vx : Expr} {gs : List Comprehension} {scope : Scope} {pos py : Pos} {y : Str} {l : Nat} {env : Env} (hk : env.scope.kind = .function) (hy : env.scope.names.lookup y = some .local) (hl : (py.line == pos.line) = true)
    (ha : (scope.names.any fun (n, k) => n == y && (k == .local || k == .cell)) = false) : swapsWith (.DictComp kx vx gs scope pos) (some (.Name y py)) l env = pure true := by
  have ky : env.kindOf y = some .local := hy
  have hb : env.blockKind = .function := by unfold Env.blockKind; rw [hk]; rfl
  unfold swapsWith
  simp only [hb, ky, ha, Expr.pos, hl]
  rfl
end
end K31
set_option Elab.async false
set_option linter.all false
set_option maxRecDepth 100000
set_option maxHeartbeats 4000000
namespace K31
open PySem PySem.Spec PyProof.Rows L2 He
open C8 (Cal Met Mak pe_c pe_mk pe_mt pe_mt0)
section
variable {P : Program} {w : World} {K : PySem.W.Frag} {mg : Str → Option Value} {base : Heap}
/-! ### places_of's twin in the law: [''] + sorted(parents) -/
def spLPlaces : Sp := fun vs H Q _ => ∃ (a : Addr) (l : List (Str × Str)), vs = [.ref a] ∧ FDf V.str H a l ∧ l.length < 64 ∧
  ∀ (ys : List Str) (p : Addr) (H' : Hp), ys.Perm (l.map (·.1)) → sortedS ys = true → H p = none → Sub H H' → H' p = some (.lst ((("" : Str) :: ys).map V.str)) → Q (.ref p) H'
theorem sc_law_places : FnScope ["_law_parents_here"] ["_law_parents_here"] (defScope s_law_places) := ⟨rfl, rfl, rfl, by decide +kernel, rfl, by decide +kernel, by decide +kernel⟩
theorem ok_law_places (T : Txt K mg) : Cal P w K mg base 1 "_law_places" spLPlaces [] := by
  refine cal_of T.f__law_places T.g__law_places sc_law_places (fun vs H Q E h => ?_) (fun _ _ _ _ _ _ us hl => match us, hl with | [_], _ => rfl) (fun f cdv A outer s H vs Q E hr h => ?_)
  · obtain ⟨a, l, rfl, _⟩ := h
    rfl
  · obtain ⟨a, l, rfl, hl, hz, k⟩ := h
    refine ⟨_, pss_one (ps_ret (pe_op op_cat (pe_lst (pa_cons pe_str pa_nil)) (pe_callB (call_sortedD rfl) rfl T.n_sorted (by decide +kernel) (pa_cons (pv 0) pa_nil)))), ?_⟩
    refine ⟨by decide, fun p1 n1 => ?_⟩
    have s1 := Sub.new (o := .lst [V.str ""]) n1
    refine ⟨_, rfl, a, kS V.str l, l.map (·.1), rfl, s1.rd hl.rd, by unfold kS; rw [List.map_map, List.map_map]; rfl, by rw [List.length_map]; exact hz, fun ys p2 hp hs n2 => ?_⟩
    have s2 := s1.trans (Sub.new (o := .lst (ys.map V.str)) n2)
    have hyl : ys.length < 64 := by rw [hp.length_eq, List.length_map]; exact hz
    refine ⟨p1, p2, _, _, rfl, rfl, (by rw [upd_ne (ne_of_none upd_same n2)]; exact upd_same), upd_same, sz (by simp; omega), fun p3 n3 => ?_⟩
    exact k ys p3 _ hp hs (s2.fresh n3) (s2.trans (Sub.new n3)) upd_same

/-! ### path_difference -/
def diffN (a b : List Str) : Nat := (a.filter fun x => decide (¬ x ∈ b)).length
theorem inV_str (x : Str) (b : List Str) : inV (.str x) (b.map V.str) = decide (x ∈ b) := by
  unfold inV
  induction b with
  | nil => simp
  | cons y b ih =>
    rw [List.map_cons, List.any_cons, ih]
    by_cases h : y = x
    · subst h
      simp [eqV]
    · have : ¬ x = y := fun e => h e.symm
      simp [eqV, h, this]
theorem flat_str (b : List Str) : (b.map V.str).all flatV = true := List.all_eq_true.mpr fun x hx => by
  obtain ⟨y, _, rfl⟩ := List.mem_map.mp hx
  rfl
/-- two paths, as tuples: how many flags are in exactly one -/
def spDiff (K : PySem.W.Frag) : Sp := fun vs H Q _ => ∃ (a b : Addr) (xs ys : List Str), vs = [.ref a, .ref b] ∧ SqT K H a (xs.map V.str) ∧ SqT K H b (ys.map V.str) ∧ xs.length ≤ 100 ∧ ys.length ≤ 100 ∧
  ∀ H', Sub H H' → Q (.int ((diffN xs ys + diffN ys xs : Nat) : Int)) H'
theorem sc_path_difference : FnScope ["one", "other", "name"] ["one", "other"] (defScope spath_difference) := ⟨rfl, rfl, rfl, by decide +kernel, rfl, by decide +kernel, by decide +kernel⟩
theorem ok_path_difference (T : Txt K mg) : Cal P w K mg base 1 "path_difference" (spDiff K) [] := by
  refine cal_of T.f_path_difference T.g_path_difference sc_path_difference (fun vs H Q E h => ?_) (fun _ _ _ _ _ _ us hl => match us, hl with | [_, _], _ => rfl) (fun f cdv A outer s H vs Q E hr h => ?_)
  · obtain ⟨a, b, xs, ys, rfl, _⟩ := h
    rfl
  · obtain ⟨a, b, xs, ys, rfl, ha, hb, hx, hy, k⟩ := h
    refine ⟨_, pss_one (ps_ret (pe_op op_add
      (pe_callB call_len_seq rfl T.n_len PySem.boot_len (pa_cons (pe_lc (own := [("name", 2)]) (g := gName 2) (tt := tTest (tOp (rIn K true) (tVar 2) (tVar 1))) rfl sc_path_difference.nd (pi_tup (pv 0)) (blkOk_by (N := ["one", "other", "name"]) (sc := defScope spath_difference) (by decide +kernel)) (fun _ _ _ _ _ => pg_name (i := 2) sc_path_difference.nd rfl (.inl rfl)) (fun _ _ _ _ _ => pts_one (pt_cmpR op_notIn_seq (pv 2) (pv 1) rfl)) (fun _ _ _ _ _ => pv 2)) pa_nil))
      (pe_callB call_len_seq rfl T.n_len PySem.boot_len (pa_cons (pe_lc (own := [("name", 2)]) (g := gName 2) (tt := tTest (tOp (rIn K true) (tVar 2) (tVar 0))) rfl sc_path_difference.nd (pi_tup (pv 1)) (blkOk_by (N := ["one", "other", "name"]) (sc := defScope spath_difference) (by decide +kernel)) (fun _ _ _ _ _ => pg_name (i := 2) sc_path_difference.nd rfl (.inl rfl)) (fun _ _ _ _ _ => pts_one (pt_cmpR op_notIn_seq (pv 2) (pv 0) rfl)) (fun _ _ _ _ _ => pv 2)) pa_nil)))), ?_⟩
    refine ⟨_, rfl, a, rfl, ⟨_, ha⟩, k_lcD (walkT (data := xs) (f := V.str)) (fun H' s => s.t ha) (fun x => decide (¬ x ∈ ys)) V.str (by omega) (fun i d H' _ s Q q => ?_) (fun i d H' _ _ s Q q => ⟨_, rfl, q _ _ (Sub.refl _) rfl⟩) (fun D H1 n1 s1 e1 => ?_)⟩
    · refine ⟨_, rfl, _, rfl, b, ys.map V.str, rfl, .inr (s.t hb), rfl, flat_str ys, _, rfl, ?_⟩
      rw [inV_str]
      have := q _ (Sub.refl _)
      simpa using this
    · refine ⟨D, _, rfl, .inl (SqL.of e1), ?_⟩
      refine ⟨_, rfl, b, rfl, ⟨_, s1.t hb⟩, k_lcD (walkT (data := ys) (f := V.str)) (fun H' s => s.t (s1.t hb)) (fun x => decide (¬ x ∈ xs)) V.str (by omega) (fun i d H' _ s Q q => ?_) (fun i d H' _ _ s Q q => ⟨_, rfl, q _ _ (Sub.refl _) rfl⟩) (fun D2 H2 n2 s2 e2 => ?_)⟩
      · refine ⟨_, rfl, _, rfl, a, xs.map V.str, rfl, .inr (s.t (s1.t ha)), rfl, flat_str xs, _, rfl, ?_⟩
        rw [inV_str]
        have := q _ (Sub.refl _)
        simpa using this
      · refine ⟨D2, _, rfl, .inl (SqL.of e2), _, _, rfl, rfl, ?_⟩
        have := k H2 (s1.trans s2)
        simpa [diffN] using this
end
end K31
set_option Elab.async false
set_option linter.all false
set_option maxRecDepth 100000
set_option maxHeartbeats 4000000
namespace K31
open PySem PySem.Spec PyProof.Rows L2 He
open C8 (Cal Met Mak pe_c pe_mk pe_mt pe_mt0)
/-! ### paths -/
inductive IsPath (g : Str → Option Str) : Str → List Str → Prop
  | root : IsPath g "" []
  | step {x a : Str} {ys : List Str} : x ≠ "" → g x = some a → IsPath g a ys → IsPath g x (ys ++ [x])
theorem IsPath.uniq {g : Str → Option Str} : ∀ {x : Str} {ys zs : List Str}, IsPath g x ys → IsPath g x zs → ys = zs := by
  intro x ys zs h
  induction h generalizing zs with
  | root =>
    intro h'
    cases h' with
    | root => rfl
    | step n _ _ => exact absurd rfl n
  | step n e t ih =>
    intro h'
    cases h' with
    | root => exact absurd rfl n
    | step _ e' t' =>
      rw [e] at e'
      cases e'
      rw [ih t']
theorem IsPath.suffix {g : Str → Option Str} {x : Str} {ys : List Str} (h : IsPath g x ys) : ∀ y ∈ ys, ∃ zs, IsPath g y zs ∧ zs.length ≤ ys.length := by
  induction h with
  | root => intro y hy; cases hy
  | @step x a ys n e t ih =>
    intro y hy
    rcases List.mem_append.mp hy with z | z
    · obtain ⟨zs, h1, h2⟩ := ih y z
      exact ⟨zs, h1, by rw [List.length_append]; omega⟩
    · have : y = x := by simpa using z
      subst this
      exact ⟨_, .step n e t, Nat.le_refl _⟩
theorem IsPath.notin {g : Str → Option Str} {x a : Str} {ys : List Str} (n : x ≠ "") (e : g x = some a) (h : IsPath g a ys) : x ∉ ys := fun hm => by
  obtain ⟨zs, h1, h2⟩ := h.suffix x hm
  have := h1.uniq (.step n e h)
  rw [this, List.length_append] at h2
  simp at h2
  omega
theorem IsPath.ne {g : Str → Option Str} {x : Str} {ys : List Str} (h : IsPath g x ys) : ∀ y ∈ ys, y ≠ "" := by
  induction h with
  | root => intro y hy; cases hy
  | step n e t ih =>
    intro y hy
    rcases List.mem_append.mp hy with z | z
    · exact ih y z
    · rw [show y = _ from by simpa using z]; exact n
theorem IsPath.congr {g g' : Str → Option Str} {x : Str} {ys : List Str} (h : IsPath g x ys) (k : ∀ x, g' x = g x) : IsPath g' x ys := by
  induction h with
  | root => exact .root
  | step n e t ih => exact .step n ((k _).trans e) ih
section
variable {P : Program} {w : World} {K : PySem.W.Frag} {mg : Str → Option Value} {base : Heap}

/-! ### path_in -/
def spPathIn : Sp := fun vs H Q _ => ∃ (d : Addr) (l : List (Str × Str)) (x : Str) (xs : List Str), vs = [.ref d, .str x] ∧ RD V.str H d l ∧ IsPath (aGet l) x xs ∧ xs.length ≤ 50 ∧
  ∀ (p : Addr) (H' : Hp), H p = none → Sub H H' → H' p = some (.tup (xs.map V.str)) → Q (.ref p) H'
theorem sc_path_in : FnScope ["above", "place", "path"] ["above", "place"] (defScope spath_in) := ⟨rfl, rfl, rfl, by decide +kernel, rfl, by decide +kernel, by decide +kernel⟩
theorem ok_path_in (T : Txt K mg) : Cal P w K mg base 1 "path_in" spPathIn [] := by
  refine cal_of T.f_path_in T.g_path_in sc_path_in (fun vs H Q E h => ?_) (fun _ _ _ _ _ _ us hl => match us, hl with | [_, _], _ => rfl) (fun f cdv A outer s H vs Q E hr h => ?_)
  · obtain ⟨d, l, x, xs, rfl, _⟩ := h
    rfl
  · obtain ⟨d, l, x, xs, rfl, hd, hp, hl, k⟩ := h
    have hu := hu_of hr
    refine ⟨_, pss_cons (ps_set (i := 2) sc_path_in.nd rfl (.inl rfl) (pe_lst pa_nil))
      (pss_cons (ps_while PassesOwn.never (pt_cmpR op_ne (pv 1) pe_str (nomark _))
        (pss_cons (ps_expr (pe_bm PySem.F.plainAttrs_list PySem.F.slot_list_append PySem.F.type_list_append mt_append (pv 2) (pa_cons (pv 1) pa_nil)))
        (pss_one (ps_set (i := 1) sc_path_in.nd rfl (.inl rfl) (pe_dget hu (pv 0) (pv 1) (fun _ _ => rfl))))))
      (pss_one (ps_ret (pe_callTy call_tuple_of rfl T.n_tuple (by decide +kernel) (pa_cons (pe_revL (pv 2)) pa_nil))))), ?_⟩
    refine ⟨by decide, fun p n => ?_⟩
    refine ⟨fun m σ H' => ∃ (x : Str) (ys acc : List Str), σ = [some (.ref d), some (.str x), some (.ref p)] ∧ IsPath (aGet l) x ys ∧ m = ys.length ∧ acc ++ ys.reverse = xs.reverse ∧ H' p = some (.lst (acc.map V.str)) ∧ Sub H H', ⟨xs.length, x, xs, [], rfl, hp, rfl, rfl, upd_same, Sub.new n⟩, ?_⟩
    rintro m σ H1 ⟨x, ys, acc, rfl, hp, rfl, he, e1, s1⟩
    refine ⟨_, rfl, rfl, _, rfl, ?_⟩
    cases hp with
    | root =>
      refine rd_ite (fun z => ?_) (fun _ => ?_)
      · simp at z
      · refine ⟨_, rfl, p, _, rfl, SqL.of e1, fun q nq => ?_⟩
        refine ⟨q, _, rfl, .inl ⟨SqL.of upd_same, fun t nt => ?_⟩⟩
        have e2 : (acc.map V.str).reverse = xs.map V.str := by
          rw [← List.map_reverse]
          have : acc = xs.reverse := by simpa using he
          rw [this, List.reverse_reverse]
        rw [e2]
        have s2 := s1.trans (Sub.new (o := .lst ((acc.map V.str).reverse)) nq)
        rw [e2] at s2
        rw [e2] at nt
        exact k t _ (s2.fresh nt) (s2.trans (Sub.new nt)) upd_same
    | @step _ a ys ne e t =>
      refine rd_ite (fun _ => ?_) (fun z => ?_)
      · have hlen : acc.length < 100 := by
          have := congrArg List.length he
          simp at this
          omega
        refine ⟨fun σ' H' => ∃ (x : Str) (zs acc : List Str), σ' = [some (.ref d), some (.str x), some (.ref p)] ∧ IsPath (aGet l) x zs ∧ ys.length = zs.length ∧ acc ++ zs.reverse = xs.reverse ∧ H' p = some (.lst (acc.map V.str)) ∧ Sub H H', fun σ' H' ⟨x, zs, acc, h1, h2, h3, h4⟩ => ⟨ys.length, by simp, x, zs, acc, h1, h2, h3, h4⟩, ?_⟩
        refine ⟨_, rfl, .inl ⟨rfl, _, SqL.of e1⟩, _, rfl, p, acc.map V.str, .str x, rfl, rfl, e1, szl (by simp; omega), ?_⟩
        have s2 : Sub H (upd H1 p (.lst (acc.map V.str ++ [.str x]))) := s1.mut n
        refine ⟨_, rfl, _, rfl, d, .str a, rfl, by have := dget_r (s2.rd hd) x; rwa [e] at this, ?_⟩
        refine ⟨a, ys, acc ++ [x], rfl, t, rfl, ?_, ?_, s2⟩
        · rw [← he]; simp
        · rw [upd_same]; simp
      · simp [ne] at z

/-! ### _law_path -/
def spLPath (n : Nat) : Sp := fun vs H Q _ => ∃ (d : Addr) (l : List (Str × Str)) (x : Str) (xs : List Str), vs = [.ref d, .str x] ∧ RD V.str H d l ∧ IsPath (aGet l) x xs ∧ xs.length ≤ n ∧ n ≤ 50 ∧
  ∀ (p : Addr) (H' : Hp), H p = none → Sub H H' → H' p = some (.tup (xs.map V.str)) → Q (.ref p) H'
theorem sc_law_path : FnScope ["_law_parents_here", "_law_spot"] ["_law_parents_here", "_law_spot"] (defScope s_law_path) := ⟨rfl, rfl, rfl, by decide +kernel, rfl, by decide +kernel, by decide +kernel⟩
theorem ok_law_path (T : Txt K mg) : ∀ n : Nat, Cal P w K mg base (n + 1) "_law_path" (spLPath n) [] := by
  intro n
  induction n with
  | zero =>
    refine cal_of T.f__law_path T.g__law_path sc_law_path (fun vs H Q E h => ?_) (fun _ _ _ _ _ _ us hl => match us, hl with | [_, _], _ => rfl) (fun f cdv A outer s H vs Q E hr h => ?_)
    · obtain ⟨d, l, x, xs, rfl, _⟩ := h
      rfl
    · obtain ⟨d, l, x, xs, rfl, hd, hp, hl, _, k⟩ := h
      refine ⟨_, pss_one (ps_ret (pe_ifExp (pt_cmpR op_eq (pv 1) pe_str (nomark _)) (pe_tup pa_nil) pe_never)), ?_⟩
      refine ⟨_, rfl, rfl, _, rfl, ?_⟩
      cases hp with
      | root =>
        refine rd_ite (fun _ => ⟨by decide, fun p n => k p _ n (Sub.new n) upd_same⟩) (fun z => ?_)
        simp at z
      | step n e t => simp at hl
  | succ n ih =>
    refine cal_of T.f__law_path T.g__law_path sc_law_path (fun vs H Q E h => ?_) (fun _ _ _ _ _ _ us hl => match us, hl with | [_, _], _ => rfl) (fun f cdv A outer s H vs Q E hr h => ?_)
    · obtain ⟨d, l, x, xs, rfl, _⟩ := h
      rfl
    · obtain ⟨d, l, x, xs, rfl, hd, hp, hl, hn, k⟩ := h
      have hu := hu_of hr
      refine ⟨_, pss_one (ps_ret (pe_ifExp (pt_cmpR op_eq (pv 1) pe_str (nomark _)) (pe_tup pa_nil) (pe_op op_catA (pe_c ih hr (Nat.le_refl _) rfl (pa_cons (pv 0) (pa_cons (pe_dget hu (pv 0) (pv 1) (fun _ _ => rfl)) pa_nil))) (pe_tup (pa_cons (pv 1) pa_nil))))), ?_⟩
      refine ⟨_, rfl, rfl, _, rfl, ?_⟩
      cases hp with
      | root =>
        refine rd_ite (fun _ => ⟨by decide, fun p n => k p _ n (Sub.new n) upd_same⟩) (fun z => ?_)
        simp at z
      | @step _ a ys ne e t =>
        refine rd_ite (fun z => ?_) (fun _ => ?_)
        · simp [ne] at z
        · refine ⟨_, rfl, _, rfl, _, rfl, d, .str a, rfl, by have := dget_r hd x; rwa [e] at this, ?_⟩
          refine ⟨d, l, a, ys, rfl, hd, t, by simp at hl; omega, by omega, fun p H1 n1 s1 e1 => ?_⟩
          refine ⟨_, rfl, sz (by simp), fun q n2 => ?_⟩
          have s2 := s1.trans (Sub.new (o := .tup [.str x]) n2)
          refine ⟨p, q, ys.map V.str, [.str x], rfl, rfl, (Sub.new n2).t (SqT.of e1), SqT.of upd_same, sz (by simp at hl ⊢; omega), fun z => ?_, fun _ z => absurd z (by simp), fun _ _ r n3 => ?_⟩
          · have : ys = [] := by simpa using z
            subst this
            exact k q _ (s1.fresh n2) s2 upd_same
          · refine k r _ (s2.fresh n3) (s2.trans (Sub.new n3)) ?_
            rw [upd_same]
            simp

/-! ### _law_apart: path_difference, written out -/
def spApart (K : PySem.W.Frag) : Sp := spDiff K
theorem sc_law_apart : FnScope ["_law_here", "_law_there", "_law_one"] ["_law_here", "_law_there"] (defScope s_law_apart) := ⟨rfl, rfl, rfl, by decide +kernel, rfl, by decide +kernel, by decide +kernel⟩
theorem ok_law_apart (T : Txt K mg) : Cal P w K mg base 1 "_law_apart" (spDiff K) [] := by
  refine cal_of T.f__law_apart T.g__law_apart sc_law_apart (fun vs H Q E h => ?_) (fun _ _ _ _ _ _ us hl => match us, hl with | [_, _], _ => rfl) (fun f cdv A outer s H vs Q E hr h => ?_)
  · obtain ⟨a, b, xs, ys, rfl, _⟩ := h
    rfl
  · obtain ⟨a, b, xs, ys, rfl, ha, hb, hx, hy, k⟩ := h
    refine ⟨_, pss_one (ps_ret (pe_op op_add
      (pe_callB call_len_seq rfl T.n_len PySem.boot_len (pa_cons (pe_lc (own := [("_law_one", 2)]) (g := gName 2) (tt := tTest (tOp (rIn K true) (tVar 2) (tVar 1))) rfl sc_law_apart.nd (pi_tup (pv 0)) (blkOk_by (N := ["_law_here", "_law_there", "_law_one"]) (sc := defScope s_law_apart) (by decide +kernel)) (fun _ _ _ _ _ => pg_name (i := 2) sc_law_apart.nd rfl (.inl rfl)) (fun _ _ _ _ _ => pts_one (pt_cmpR op_notIn_seq (pv 2) (pv 1) rfl)) (fun _ _ _ _ _ => pv 2)) pa_nil))
      (pe_callB call_len_seq rfl T.n_len PySem.boot_len (pa_cons (pe_lc (own := [("_law_one", 2)]) (g := gName 2) (tt := tTest (tOp (rIn K true) (tVar 2) (tVar 0))) rfl sc_law_apart.nd (pi_tup (pv 1)) (blkOk_by (N := ["_law_here", "_law_there", "_law_one"]) (sc := defScope s_law_apart) (by decide +kernel)) (fun _ _ _ _ _ => pg_name (i := 2) sc_law_apart.nd rfl (.inl rfl)) (fun _ _ _ _ _ => pts_one (pt_cmpR op_notIn_seq (pv 2) (pv 0) rfl)) (fun _ _ _ _ _ => pv 2)) pa_nil)))), ?_⟩
    refine ⟨_, rfl, a, rfl, ⟨_, ha⟩, k_lcD (walkT (data := xs) (f := V.str)) (fun H' s => s.t ha) (fun x => decide (¬ x ∈ ys)) V.str (by omega) (fun i d H' _ s Q q => ?_) (fun i d H' _ _ s Q q => ⟨_, rfl, q _ _ (Sub.refl _) rfl⟩) (fun D H1 n1 s1 e1 => ?_)⟩
    · refine ⟨_, rfl, _, rfl, b, ys.map V.str, rfl, .inr (s.t hb), rfl, flat_str ys, _, rfl, ?_⟩
      rw [inV_str]
      have := q _ (Sub.refl _)
      simpa using this
    · refine ⟨D, _, rfl, .inl (SqL.of e1), ?_⟩
      refine ⟨_, rfl, b, rfl, ⟨_, s1.t hb⟩, k_lcD (walkT (data := ys) (f := V.str)) (fun H' s => s.t (s1.t hb)) (fun x => decide (¬ x ∈ xs)) V.str (by omega) (fun i d H' _ s Q q => ?_) (fun i d H' _ _ s Q q => ⟨_, rfl, q _ _ (Sub.refl _) rfl⟩) (fun D2 H2 n2 s2 e2 => ?_)⟩
      · refine ⟨_, rfl, _, rfl, a, xs.map V.str, rfl, .inr (s.t (s1.t ha)), rfl, flat_str xs, _, rfl, ?_⟩
        rw [inV_str]
        have := q _ (Sub.refl _)
        simpa using this
      · refine ⟨D2, _, rfl, .inl (SqL.of e2), _, _, rfl, rfl, ?_⟩
        have := k H2 (s1.trans s2)
        simpa [diffN] using this
end
end K31
set_option Elab.async false
set_option linter.all false
set_option maxRecDepth 100000
set_option maxHeartbeats 4000000
namespace K31
open PySem PySem.Spec PyProof.Rows L2 He
open C8 (Cal Met Mak pe_c pe_mk pe_mt pe_mt0)
abbrev abc : Str := "abcdefghijklmnopqrstuvwxyz"
/-- a name -/
structure NameOk (z : Str) : Prop where
  lo : 1 ≤ z.length
  hi : z.length ≤ 8
  self : z ≠ "self"
  abc : ∀ c ∈ z.cps.toList, c ∈ abc.cps.toList
section
variable {P : Program} {w : World} {K : PySem.W.Frag} {mg : Str → Option Value} {base : Heap}
/-- isinstance by the type's name -/
theorem isi_ty {X : Cx} {x : V} {t : Value} {n : String} {b : Bool} {H : Hp} {Q : VK} (ty : TyX K H x t) (e : PySem.W.kitOne K t (.type n) = some b) (q : Q (.bl b) H) : rIsi K [x, .ty n] H Q := ⟨x, .ty n, t, .type n, b, rfl, .ty n, ty, e, q⟩
theorem pe_ty {X : Cx} {x : Str} {n : String} {pos : Pos} (hg : Gl X x) (hm : X.mg x = none) (hv : bootBuiltins x = some (.type n)) (hn : x ≠ "__name__" := by decide) (hd : (x == ("__debug__" : Str)) = false := by decide) : PE X (.Name x pos) (tC (.ty n)) := pe_bltn hg hm hv rfl hn hd

/-! ### is_name -/
def spIsName : Sp := fun vs H Q _ => ∃ z : Str, vs = [.str z] ∧ NameOk z ∧ ∀ H', Sub H H' → Q (.bl true) H'
theorem sc_is_name : FnScope ["value", "letter"] ["value"] (defScope sis_name) := ⟨rfl, rfl, rfl, by decide +kernel, rfl, by decide +kernel, by decide +kernel⟩
theorem ok_is_name (T : Txt K mg) : Cal P w K mg base 1 "is_name" spIsName [] := by
  refine cal_of T.f_is_name T.g_is_name sc_is_name (fun vs H Q E h => ?_) (fun _ _ _ _ _ _ us hl => match us, hl with | [_], _ => rfl) (fun f cdv A outer s H vs Q E hr h => ?_)
  · obtain ⟨z, rfl, _⟩ := h
    rfl
  · obtain ⟨z, rfl, N, k⟩ := h
    refine ⟨_, pss_cons (ps_if (PW.pt (pw_or (pt_not (pt_val (pe_callB call_isi rfl T.n_isinstance (by decide +kernel) (pa_cons (pv 0) (pa_cons (pe_ty (n := "str") rfl T.n_str (by decide +kernel)) pa_nil)))))
        (pw_or (pt_not (pt_chain op_le op_le pe_int (pe_callB call_len_str rfl T.n_len PySem.boot_len (pa_cons (pv 0) pa_nil)) (C8.pe_gc rfl T.longest)))
        (pw_or1 (pt_cmpR op_eq (pv 0) pe_str (nomark _)))))) (pss_one ps_never) pss_nil)
      (pss_one (ps_ret (pe_callB (cr_all rfl) rfl T.n_all (by decide +kernel) (pa_cons (pe_lc (own := [("letter", 1)]) (g := gName 1) (tt := tYes) rfl sc_is_name.nd (pi_str (pv 0)) (blkOk_by (N := ["value", "letter"]) (sc := defScope sis_name) (by decide +kernel)) (fun _ _ _ _ _ => pg_name (i := 1) sc_is_name.nd rfl (.inl rfl)) (fun _ _ _ _ _ => pts_nil) (fun _ _ _ _ _ => pe_cmpR op_inS (pv 1) (C8.pe_gc rfl T.letters) rfl)) pa_nil)))), ?_⟩
    refine ⟨_, rfl, .str z, .ty "str", .type "str", .type "str", true, rfl, .ty _, .base (.str z), rfl, true, rfl, ?_⟩
    refine rd_ite (fun e => by cases e) (fun _ => ?_)
    refine ⟨_, rfl, z, rfl, sz (by have := N.hi; omega), _, _, rfl, rfl, _, rfl, ?_⟩
    have n1 := N.lo
    have n2 := N.hi
    have e1 : decide ((1 : Int) ≤ (z.length : Int)) = true := decide_eq_true (by omega)
    have e2 : decide ((z.length : Int) ≤ 8) = true := decide_eq_true (by omega)
    rw [e1]
    refine iteT ?_
    refine ⟨_, _, rfl, rfl, _, rfl, ?_⟩
    rw [e2]
    refine rd_ite (fun e => by cases e) (fun _ => ?_)
    refine ⟨_, rfl, rfl, _, rfl, ?_⟩
    refine rd_ite (fun e => ?_) (fun _ => ?_)
    · have : V.str z = V.str "self" := of_decide_eq_true e
      exact absurd (V.str.inj this) N.self
    · refine ⟨_, rfl, z, rfl, k_lcD (toV := fun c => V.str ⟨#[c]⟩) (walkS (z := z)) (fun _ _ => True.intro) (fun _ => true) (fun c => .bl (decide (c ∈ abc.cps.toList))) (by rw [Array.length_toList]; show z.length ≤ 1000; omega) (fun _ _ _ _ _ => evB_yes) (fun i c H' _ _ s Q q => ⟨_, rfl, c, abc, rfl, rfl, q _ _ (Sub.refl _) rfl⟩) (fun D H1 n1 s1 e1 => ?_)⟩
      refine ⟨D, z.cps.toList.map fun c => decide (c ∈ abc.cps.toList), rfl, SqL.of ?_, ?_⟩
      · rw [e1, List.filter_eq_self.mpr fun _ _ => rfl, List.map_map]
        rfl
      · have : (z.cps.toList.map fun c => decide (c ∈ abc.cps.toList)).all id = true := List.all_eq_true.mpr fun x hx => by
          obtain ⟨c, hc, rfl⟩ := List.mem_map.mp hx
          exact decide_eq_true (N.abc c hc)
        rw [this]
        exact k H1 s1

/-! ### is_ancestor -/
def spIsAnc : Sp := fun vs H Q _ => ∃ (d : Addr) (l : List (Str × Str)) (x a : Str) (ys : List Str), vs = [.ref d, .str x] ∧ RD V.str H d l ∧ x ≠ "" ∧ aGet l x = some a ∧ aGet l "" = none ∧ IsPath (aGet l) a ys ∧ ys.length ≤ 50 ∧ ∀ H', Sub H H' → Q (.bl false) H'
theorem sc_is_ancestor : FnScope ["parents", "name", "seen", "above"] ["parents", "name"] (defScope sis_ancestor) := ⟨rfl, rfl, rfl, by decide +kernel, rfl, by decide +kernel, by decide +kernel⟩
theorem ok_is_ancestor (T : Txt K mg) : Cal P w K mg base 1 "is_ancestor" spIsAnc [] := by
  refine cal_of T.f_is_ancestor T.g_is_ancestor sc_is_ancestor (fun vs H Q E h => ?_) (fun _ _ _ _ _ _ us hl => match us, hl with | [_, _], _ => rfl) (fun f cdv A outer s H vs Q E hr h => ?_)
  · obtain ⟨d, l, x, a, ys, rfl, _⟩ := h
    rfl
  · obtain ⟨d, l, x, a, ys, rfl, hd, nx, ex, e0, hp, hl, k⟩ := h
    have hu := hu_of hr
    refine ⟨_, pss_cons (ps_set (i := 2) sc_is_ancestor.nd rfl (.inl rfl) (pe_lst pa_nil))
      (pss_cons (ps_set (i := 3) sc_is_ancestor.nd rfl (.inl rfl) (pe_dget hu (pv 0) (pv 1) (fun _ _ => rfl)))
      (pss_cons (ps_while PassesOwn.never (PW.pt (pw_and (pt_cmp (pc_din hu (pv 3) (pv 0))) (pw_and1 (pt_cmpR op_notIn_seq (pv 3) (pv 2) rfl))))
        (pss_cons (ps_if (pt_cmpR op_eq (pv 3) (pv 1) (nomark _)) (pss_one (ps_ret pe_bl)) pss_nil)
        (pss_cons (ps_expr (pe_bm PySem.F.plainAttrs_list PySem.F.slot_list_append PySem.F.type_list_append mt_append (pv 2) (pa_cons (pv 3) pa_nil)))
        (pss_one (ps_set (i := 3) sc_is_ancestor.nd rfl (.inl rfl) (pe_dget hu (pv 0) (pv 3) (fun _ _ => rfl)))))))
      (pss_one (ps_ret pe_bl)))), ?_⟩
    refine ⟨by decide, fun p n => ?_⟩
    have s0 := Sub.new (o := .lst []) n
    refine ⟨_, rfl, _, rfl, d, .str a, rfl, by have := dget_r (s0.rd hd) x; rwa [ex] at this, ?_⟩
    have hx := IsPath.notin nx ex hp
    refine ⟨fun m σ H' => ∃ (b : Str) (zs acc : List Str), σ = [some (.ref d), some (.str x), some (.ref p), some (.str b)] ∧ IsPath (aGet l) b zs ∧ (∀ z ∈ zs, z ∈ ys) ∧ m = zs.length ∧ acc.length + zs.length = ys.length ∧ H' p = some (.lst (acc.map V.str)) ∧ Sub H H', ⟨ys.length, a, ys, [], rfl, hp, fun _ h => h, rfl, by simp, upd_same, s0⟩, ?_⟩
    rintro m σ H1 ⟨b, zs, acc, rfl, hb, hz, rfl, ha, e1, s1⟩
    refine ⟨_, rfl, _, rfl, d, _, rfl, dget_r (s1.rd hd) b, _, rfl, ?_⟩
    cases hb with
    | root =>
      rw [e0]
      refine rd_ite (fun z => by cases z) (fun _ => ?_)
      exact rd_ite (fun z => by cases z) (fun _ => k H1 s1)
    | @step _ c zs nb eb t =>
      rw [eb]
      refine rd_ite (fun _ => ?_) (fun z => by cases z)
      refine ⟨_, rfl, _, rfl, p, _, rfl, .inl (SqL.of e1), rfl, flat_str acc, _, rfl, ?_⟩
      refine rd_ite (fun _ => ?_) (fun _ => k H1 s1)
      refine ⟨fun σ' H' => ∃ (b : Str) (us acc : List Str), σ' = [some (.ref d), some (.str x), some (.ref p), some (.str b)] ∧ IsPath (aGet l) b us ∧ (∀ z ∈ us, z ∈ ys) ∧ zs.length = us.length ∧ acc.length + us.length = ys.length ∧ H' p = some (.lst (acc.map V.str)) ∧ Sub H H', fun σ' H' ⟨b, us, acc, h1, h2, h3, h4⟩ => ⟨zs.length, by simp, b, us, acc, h1, h2, h3, h4⟩, ?_⟩
      refine ⟨_, rfl, _, rfl, rfl, _, rfl, ?_⟩
      refine rd_ite (fun e => ?_) (fun _ => ?_)
      · have : V.str b = V.str x := of_decide_eq_true e
        have e2 := V.str.inj this
        exact absurd (hz b (by simp)) (e2 ▸ hx)
      · refine ⟨_, rfl, .inl ⟨rfl, _, SqL.of e1⟩, _, rfl, p, _, .str b, rfl, rfl, e1, szl (by simp at ha ⊢; omega), ?_⟩
        have s2 : Sub H (upd H1 p (.lst (acc.map V.str ++ [.str b]))) := s1.mut n
        refine ⟨_, rfl, _, rfl, d, .str c, rfl, by have := dget_r (s2.rd hd) b; rwa [eb] at this, ?_⟩
        refine ⟨c, zs, acc ++ [b], rfl, t, fun z hz' => hz z (by simp [hz']), rfl, by simp at ha ⊢; omega, ?_, s2⟩
        rw [upd_same]
        simp
end
end K31
set_option Elab.async false
set_option linter.all false
set_option maxRecDepth 100000
set_option maxHeartbeats 4000000
/-! Sorted texts: there is one such list. -/
namespace K31
open PySem PySem.Spec PyProof.Rows L2
def leC (a b : List Nat) : Bool := !ltCps b a
theorem ltC_irr : ∀ a : List Nat, ltCps a a = false
  | [] => rfl
  | a :: r => by
    show (decide (a < a) || (a == a && ltCps r r)) = false
    rw [ltC_irr r]
    simp
theorem ltC_tot : ∀ a b : List Nat, ltCps a b = false → ltCps b a = false → a = b
  | [], [], _, _ => rfl
  | [], _ :: _, h, _ => by cases h
  | _ :: _, [], _, h => by cases h
  | a :: r, b :: t, h1, h2 => by
    have h1 : (decide (a < b) || (a == b && ltCps r t)) = false := h1
    have h2 : (decide (b < a) || (b == a && ltCps t r)) = false := h2
    simp only [Bool.or_eq_false_iff, decide_eq_false_iff_not, Bool.and_eq_false_iff] at h1 h2
    have e : a = b := by omega
    subst e
    have h3 : ltCps r t = false := by
      rcases h1.2 with z | z
      · simp at z
      · exact z
    have h4 : ltCps t r = false := by
      rcases h2.2 with z | z
      · simp at z
      · exact z
    rw [ltC_tot r t h3 h4]
theorem ltC_asym : ∀ a b : List Nat, ltCps a b = true → ltCps b a = false
  | [], [], h => rfl
  | [], _ :: _, _ => rfl
  | _ :: _, [], h => by cases h
  | a :: r, b :: t, h => by
    have h : (decide (a < b) || (a == b && ltCps r t)) = true := h
    show (decide (b < a) || (b == a && ltCps t r)) = false
    simp only [Bool.or_eq_true, decide_eq_true_eq, Bool.and_eq_true, beq_iff_eq] at h
    rcases h with h | ⟨h1, h2⟩
    · have : ¬ b < a := by omega
      have h3 : (b == a) = false := by simp; omega
      simp [this, h3]
    · subst h1
      have := ltC_asym r t h2
      simp [this]
theorem leC_trans : ∀ a b c : List Nat, ltCps b a = false → ltCps c b = false → ltCps c a = false
  | [], _, [], _, _ => rfl
  | _ :: _, [], [], h, _ => by cases h
  | _ :: _, _ :: _, [], _, h => by cases h
  | [], _, c :: u, _, _ => rfl
  | a :: r, [], c :: u, h, _ => by cases h
  | a :: r, b :: t, c :: u, h1, h2 => by
    have h1 : (decide (b < a) || (b == a && ltCps t r)) = false := h1
    have h2 : (decide (c < b) || (c == b && ltCps u t)) = false := h2
    show (decide (c < a) || (c == a && ltCps u r)) = false
    simp only [Bool.or_eq_false_iff, decide_eq_false_iff_not, Bool.and_eq_false_iff] at h1 h2 ⊢
    refine ⟨by omega, ?_⟩
    by_cases e : c = a
    · subst e
      have e2 : b = c := by omega
      subst e2
      right
      have h3 : ltCps t r = false := by
        rcases h1.2 with z | z
        · simp at z
        · exact z
      have h4 : ltCps u t = false := by
        rcases h2.2 with z | z
        · simp at z
        · exact z
      exact leC_trans r t u h3 h4
    · left
      simpa using e
abbrev leS (a b : Str) : Prop := ltCps b.cps.toList a.cps.toList = false
theorem rising_pw : ∀ (p : Str) (l : List Str), risingS p l = true → (p :: l).Pairwise leS
  | p, [], _ => by simp
  | p, x :: r, h => by
    have h : (!ltCps x.cps.toList p.cps.toList && risingS x r) = true := h
    obtain ⟨h1, h2⟩ := Bool.and_eq_true_iff.mp h
    have h3 : leS p x := by simpa using h1
    have ih := rising_pw x r h2
    refine List.pairwise_cons.mpr ⟨fun y hy => ?_, ih⟩
    rcases List.mem_cons.mp hy with z | z
    · subst z; exact h3
    · exact leC_trans _ _ _ h3 ((List.pairwise_cons.mp ih).1 y z)
theorem sorted_pw : ∀ (l : List Str), sortedS l = true → l.Pairwise leS
  | [], _ => List.Pairwise.nil
  | x :: r, h => rising_pw x r h
theorem str_ext {a b : Str} (h : a.cps.toList = b.cps.toList) : a = b := by
  obtain ⟨⟨a⟩⟩ := a
  obtain ⟨⟨b⟩⟩ := b
  have : a = b := h
  rw [this]
theorem sorted_one {a b : List Str} (p : a.Perm b) (ha : sortedS a = true) (hb : sortedS b = true) : a = b :=
  List.Perm.eq_of_pairwise (le := leS) (fun x y _ _ h1 h2 => str_ext (ltC_tot _ _ h2 h1)) (sorted_pw a ha) (sorted_pw b hb) p
theorem sorted_is (l : List Str) : ∃ ns : List Str, ns.Perm l ∧ sortedS ns = true := by
  refine ⟨l.mergeSort (fun a b => !ltCps b.cps.toList a.cps.toList), List.mergeSort_perm _ _, sortedS_of_pairwise _ ?_⟩
  have h := List.pairwise_mergeSort (le := fun a b : Str => !ltCps b.cps.toList a.cps.toList) (fun a b c h1 h2 => by
    simp only [Bool.not_eq_true'] at h1 h2 ⊢
    exact leC_trans _ _ _ h1 h2) (fun a b => by
    cases h : ltCps b.cps.toList a.cps.toList with
    | false => rfl
    | true => rw [ltC_asym _ _ h]; rfl) l
  exact h.imp fun h => by simpa using h
end K31
set_option Elab.async false
set_option linter.all false
set_option maxRecDepth 100000
set_option maxHeartbeats 4000000
namespace K31
open PySem PySem.Spec PyProof.Rows L2 He
open C8 (Cal Met Mak pe_c pe_mk pe_mt pe_mt0 pe_gc)
/-- parents as the law makes them -/
structure Tree (l : List (Str × Str)) : Prop where
  nd : (l.map (·.1)).Nodup
  ok : ∀ x ∈ l.map (·.1), NameOk x
  lo : 1 ≤ l.length
  hi : l.length ≤ 12
  path : ∀ x a, aGet l x = some a → ∃ ys, IsPath (aGet l) a ys ∧ ys.length + 1 ≤ 12
theorem NameOk.ne {x : Str} (h : NameOk x) : x ≠ "" := fun e => by
  have := h.lo
  rw [e] at this
  exact absurd this (by decide)
theorem Tree.root {l : List (Str × Str)} (t : Tree l) : aGet l "" = none := aGet_none fun h => (t.ok "" h).ne rfl
theorem Tree.up {l : List (Str × Str)} (t : Tree l) {x a : Str} (h : aGet l x = some a) : a = "" ∨ ∃ b, aGet l a = some b := by
  obtain ⟨ys, h1, _⟩ := t.path x a h
  cases h1 with
  | root => exact .inl rfl
  | step n e _ => exact .inr ⟨_, e⟩
theorem Tree.pathOf {l : List (Str × Str)} (t : Tree l) {x : Str} (h : x = "" ∨ x ∈ l.map (·.1)) : ∃ xs, IsPath (aGet l) x xs ∧ xs.length ≤ 12 := by
  rcases h with h | h
  · subst h; exact ⟨[], .root, by simp⟩
  · obtain ⟨a, e⟩ := aGet_some h
    obtain ⟨ys, h1, h2⟩ := t.path x a e
    exact ⟨ys ++ [x], .step (t.ok x h).ne e h1, by simpa using h2⟩
/-- the sorted names with their parents -/
def srtd (ns : List Str) (l : List (Str × Str)) : List (Str × Str) := ns.map fun n => (n, (aGet l n).getD "")
theorem srtd_get {ns : List Str} {l : List (Str × Str)} (p : ns.Perm (l.map (·.1))) : ∀ x, aGet (srtd ns l) x = aGet l x := by
  intro x
  have gen : ∀ ns : List Str, (∀ n ∈ ns, n ∈ l.map (·.1)) → aGet (srtd ns l) x = if x ∈ ns then aGet l x else none := by
    intro ns hns
    induction ns with
    | nil => rfl
    | cons n ns ih =>
      have ih := ih fun m hm => hns m (List.mem_cons_of_mem _ hm)
      unfold aGet srtd at ih ⊢
      rw [List.map_cons, List.find?_cons]
      by_cases h : n = x
      · rw [decide_eq_true (show (n, _).1 = x from h)]
        obtain ⟨a, e⟩ := aGet_some (hns n (List.mem_cons_self ..))
        subst h
        unfold aGet at e
        simp [e, aGet]
      · rw [decide_eq_false (show ¬ (n, _).1 = x from h), ih]
        have : ¬ x = n := fun z => h z.symm
        by_cases h2 : x ∈ ns <;> simp [h2, this]
  rw [gen ns fun n hn => p.mem_iff.mp hn]
  by_cases h : x ∈ ns
  · rw [if_pos h]
  · rw [if_neg h]
    exact (aGet_none fun z => h (p.mem_iff.mpr z)).symm
theorem srtd_keys {ns : List Str} {l : List (Str × Str)} : (srtd ns l).map (·.1) = ns := by
  unfold srtd
  rw [List.map_map]
  exact List.map_id _
theorem aGet_in {β : Type} : ∀ {l : List (Str × β)} {e : Str × β}, (l.map (·.1)).Nodup → e ∈ l → aGet l e.1 = some e.2
  | [], _, _, h => by simp at h
  | x :: l, e, hn, h => by
    obtain ⟨h1, h2⟩ := List.nodup_cons.mp (show (x.1 :: l.map (·.1)).Nodup from hn)
    unfold aGet
    rw [List.find?_cons]
    by_cases hx : x.1 = e.1
    · rw [decide_eq_true hx]
      rcases List.mem_cons.mp h with z | z
      · rw [z]; rfl
      · exact absurd (List.mem_map.mpr ⟨e, z, hx.symm⟩) h1
    · rw [decide_eq_false hx]
      rcases List.mem_cons.mp h with z | z
      · rw [z] at hx; exact absurd rfl hx
      · exact aGet_in h2 z
section
variable {P : Program} {w : World} {K : PySem.W.Frag} {mg : Str → Option Value} {base : Heap}
theorem rdk {β : Type} {f : β → V} {H : Hp} {a : Addr} {l : List (Str × β)} (h : H a = some (.dK (kS f l))) : RD f H a l := .inl h
theorem len_kS {β : Type} {f : β → V} {l : List (Str × β)} : (kS f l).length = l.length := List.length_map _
/-- a class's constant -/
theorem rd_cval {σ : L2.St} {H : Hp} {Q : VK} {C : Addr} {f : Str} {v : V} (h : ClX.CRead K C (.type "type") ∧ ∃ u, ClX.CVal K C (.type "type") f v u) (q : Q v H) : ClX.tCVal K (tC (.ref C)) f σ H Q :=
  let ⟨h1, u, h2⟩ := h; ⟨C, _, v, u, rfl, h1, h2, q⟩

/-! ### need_parents -/
def spNeedParents : Sp := fun vs H Q _ => ∃ (d : Addr) (l : List (Str × Str)), vs = [.ref d] ∧ FDf V.str H d l ∧ Tree l ∧ ∀ H', Sub H H' → Q .non H'
abbrev n_need_parents : List Str := ["parents", "name", "above", "other"]
theorem sc_need_parents : FnScope n_need_parents ["parents"] (defScope sneed_parents) := ⟨rfl, rfl, rfl, by decide +kernel, rfl, by decide +kernel, by decide +kernel⟩
theorem ok_need_parents (T : Txt K mg) : Cal P w K mg base 2 "need_parents" spNeedParents [] := by
  refine cal_of T.f_need_parents T.g_need_parents sc_need_parents (fun vs H Q E h => ?_) (fun _ _ _ _ _ _ us hl => match us, hl with | [_], _ => rfl) (fun f cdv A outer s H vs Q E hr h => ?_)
  · obtain ⟨d, l, rfl, _⟩ := h
    rfl
  · obtain ⟨d, l, rfl, hd, t, k⟩ := h
    have hu := hu_of hr
    refine ⟨_, (pss_cons (ps_if (PW.pt (pw_or (pt_not (pt_val (pe_callB call_isi rfl T.n_isinstance (by decide +kernel) (pa_cons (pv 0) (pa_cons (pe_ty (n := "dict") rfl T.n_dict (by decide +kernel)) pa_nil))))) (pw_or1 (pt_not (pt_chain op_le op_le pe_int (pe_callB call_lenR rfl T.n_len (by decide +kernel) (pa_cons (pv 0) pa_nil)) (ClX.pe_cval (pe_cls rfl T.g_Forest))))))) (pss_one ps_never) pss_nil)
  (pss_cons (ps_if (pt_not (pt_val (pe_callB (cr_all rfl) rfl T.n_all (by decide +kernel) (pa_cons (pe_lc (own := [("name", 1)]) (g := (gName 1)) (tt := tYes) (te := (tCall spIsName [] E0 (tCons (tVar 1) tNil))) rfl sc_need_parents.nd (pi_keys (pv 0)) (blkOk_by (N := n_need_parents) (sc := defScope sneed_parents) (by decide +kernel)) (fun _ _ _ _ _ => (pg_name (i := 1) sc_need_parents.nd rfl (.inl rfl))) (fun _ _ _ _ _ => pts_nil) (fun _ _ _ _ _ => (pe_c (ok_is_name T) hr (by decide) rfl (pa_cons (pv 1) pa_nil)))) pa_nil)))) (pss_one ps_never) pss_nil)
  (pss_one (ps_for PassesOwn.never rfl (pi_list (pe_callB (c_sortedD rfl) rfl T.n_sorted (by decide +kernel) (pa_cons (pv 0) pa_nil))) (pg_name (i := 1) sc_need_parents.nd rfl (.inl rfl))
  (pss_cons (ps_set (i := 2) sc_need_parents.nd rfl (.inl rfl) (pe_dget hu (pv 0) (pv 1) (fun _ _ => rfl)))
  (pss_cons (ps_if (PW.pt (pw_or (pt_not (pt_val (pe_callB call_isi rfl T.n_isinstance (by decide +kernel) (pa_cons (pv 2) (pa_cons (pe_ty (n := "str") rfl T.n_str (by decide +kernel)) pa_nil))))) (pw_or1 (PW.pt (pw_and (pt_cmpR op_ne (pv 2) (ClX.pe_cval (pe_cls rfl T.g_Forest)) (nomark _)) (pw_and1 (pt_cmp (pc_dnotin hu (pv 2) (pv 0))))))))) (pss_one ps_never) pss_nil)
  (pss_one (ps_if (pt_val (pe_c (ok_is_ancestor T) hr (by decide) rfl (pa_cons (pe_dc (own := [("other", 3)]) (g := (gName 3)) (tt := (tB (tCB (rIsi K) (tCons (tDGet (tVar 0) (tVar 3)) (tCons (tC (.ty "str")) tNil))))) (tk := (tVar 3)) (tv := (tDGet (tVar 0) (tVar 3))) rfl sc_need_parents.nd (pi_keys (pv 0)) (blkOk_by (N := n_need_parents) (sc := defScope sneed_parents) (by decide +kernel)) (fun _ _ _ _ _ => (pg_name (i := 3) sc_need_parents.nd rfl (.inl rfl))) (fun _ _ _ _ _ => pts_one (pt_val (pe_callB call_isi rfl T.n_isinstance (by decide +kernel) (pa_cons (pe_dget hu (pv 0) (pv 3) (fun _ _ => rfl)) (pa_cons (pe_ty (n := "str") rfl T.n_str (by decide +kernel)) pa_nil))))) (fun _ _ _ _ _ => (pv 3)) (fun _ _ _ _ _ => (pe_dget hu (pv 0) (pv 3) (fun _ _ => rfl)))) (pa_cons (pv 1) pa_nil)))) (pss_one ps_never) pss_nil)))))))), ?_⟩
    obtain ⟨o, eo⟩ := id hd
    refine ⟨_, rfl, _, _, _, _, true, rfl, .ty _, .fDict eo, kit_ty (by decide +kernel), true, rfl, ?_⟩
    refine rd_ite (fun e => by cases e) (fun _ => ?_)
    refine ⟨_, rfl, d, _, rfl, hd.rd, _, _, rfl, rfl, _, rfl, ?_⟩
    have h1 := t.lo
    have h2 := t.hi
    rw [len_kS, decide_eq_true (show (1 : Int) ≤ (l.length : Int) by omega)]
    refine iteT (rd_cval T.v_Forest_MOST ⟨_, _, rfl, rfl, _, rfl, ?_⟩)
    rw [decide_eq_true (show (l.length : Int) ≤ 12 by omega)]
    refine rd_ite (fun e => by cases e) (fun _ => ?_)
    -- all names are names
    refine ⟨_, rfl, d, o, rfl, .inl ⟨_, eo, k_lcD (toV := fun e : Str × Str => V.str e.1) (walkK (g := V.str) (l := l)) (fun H' s => s _ _ eo) (fun _ => true) (fun _ => V.bl true) (by omega) (fun _ _ _ _ _ => evB_yes) (fun i e H' he _ s Q q => ⟨_, rfl, e.1, rfl, t.ok _ (List.mem_map.mpr ⟨e, List.mem_of_getElem? he, rfl⟩), fun H2 s2 => q _ _ s2 rfl⟩) (fun D H1 n1 s1 e1 => ?_)⟩⟩
    refine ⟨D, (l.filter fun _ => true).map fun _ => true, rfl, SqL.of ?_, true, ?_, ?_⟩
    · rw [e1, List.map_map]
      rfl
    · rw [show ((l.filter fun _ => true).map fun _ => true).all id = true from List.all_eq_true.mpr fun x hx => by
        obtain ⟨_, _, rfl⟩ := List.mem_map.mp hx
        rfl]
    refine rd_ite (fun e => by cases e) (fun _ => ?_)
    -- each flag
    refine ⟨_, rfl, d, _, l.map (·.1), rfl, s1.rd hd.rd, by unfold kS; rw [List.map_map, List.map_map]; rfl, by rw [List.length_map]; omega, fun ys q hp hs n2 => ?_⟩
    have s2 := s1.trans (Sub.new (o := .lst (ys.map V.str)) n2)
    have e2 : (upd H1 q (.lst (ys.map V.str))) q = some (.lst (ys.map V.str)) := upd_same
    refine ⟨q, rfl, ⟨_, SqL.of upd_same⟩, ?_⟩
    refine for_it (walkL (K := K) (a := q) (data := ys) (f := V.str)) (fun i σ H' => ∃ o1 o2 o3, σ = [some (.ref d), o1, o2, o3] ∧ Sub (upd H1 q (.lst (ys.map V.str))) H') ⟨_, _, _, rfl, Sub.refl _⟩ (fun i σ H' _ ⟨_, _, _, _, s⟩ => SqL.of (s _ _ e2)) ?_ (fun σ H' ⟨_, _, _, _, s⟩ => k H' (s2.trans s))
    rintro i x σ H2 H3 hi ⟨o1, o2, o3, rfl, s3⟩ ⟨ez, ex⟩
    subst ez
    have s4 := s2.trans s3
    have hxm : x = V.str ys[i] := by
      rw [ex]
      show V.str (ys.getD i default) = _
      rw [List.getD_eq_getElem?_getD, List.getElem?_eq_getElem hi]
      rfl
    subst hxm
    generalize hx : ys[i] = x
    have hxk : x ∈ l.map (·.1) := by
      rw [← hx]
      exact hp.mem_iff.mp (List.getElem_mem hi)
    obtain ⟨a, ea⟩ := aGet_some hxk
    obtain ⟨zs, hz, hzl⟩ := t.path x a ea
    refine ⟨_, rfl, _, rfl, d, .str a, rfl, by have := dget_r (s4.rd hd.rd) x; rwa [ea] at this, ?_⟩
    refine ⟨_, rfl, _, _, _, _, true, rfl, .ty _, .base (.str a), rfl, true, rfl, ?_⟩
    refine rd_ite (fun e => by cases e) (fun _ => ?_)
    have rest : ∀ H3 : Hp, Sub (upd H1 q (.lst (ys.map V.str))) H3 → tIfS (tB (tCall spIsAnc [] E0 (tCons (tDc (iKeys (tVar 0)) (gName 3) (tB (tCB (rIsi K) (tCons (tDGet (tVar 0) (tVar 3)) (tCons (tC (.ty "str")) tNil)))) (tVar 3) (tDGet (tVar 0) (tVar 3)) [3]) (tCons (tVar 1) tNil)))) tNever tNext
        { nx := fun σ H' => ∃ o1 o2 o3, σ = [some (.ref d), o1, o2, o3] ∧ Sub (upd H1 q (.lst (ys.map V.str))) H', rt := Q } [some (.ref d), some (.str x), some (.str a), o3] H3 := fun H3 s3 => by
      have s4 := s2.trans s3
      refine ⟨_, rfl, d, o, rfl, .inl ⟨_, s4 _ _ eo, k_dcD (toV := fun e : Str × Str => V.str e.1) (walkK (g := V.str) (l := l)) (fun H' s => s _ _ (s4 _ _ eo)) (fun _ => true) (fun e => e.1) V.str (fun e => e.2) (by omega) (by rw [List.filter_eq_self.mpr fun _ _ => rfl]; exact t.nd)
        (fun i e H' he s Q q => ?_) (fun i e H' he _ s Q q => ⟨_, rfl, q _ _ (Sub.refl _) rfl⟩) (fun i e H' he _ s Q q => ?_) (fun D2 H4 n4 s5 e4 => ?_)⟩⟩
      · have hk := aGet_in t.nd (List.mem_of_getElem? he)
        exact ⟨_, rfl, _, rfl, d, .str e.2, rfl, (by have := dget_r ((s4.trans s).rd hd.rd) e.1; rwa [hk] at this), _, _, _, _, true, rfl, .ty _, .base (.str e.2), rfl, true, rfl, q _ (Sub.refl _)⟩
      · have hk := aGet_in t.nd (List.mem_of_getElem? he)
        exact ⟨_, rfl, _, rfl, d, .str e.2, rfl, (by have := dget_r ((s4.trans s).rd hd.rd) e.1; rwa [hk] at this), q _ _ (Sub.refl _) rfl⟩
      · have el : ((l.filter fun _ => true).map fun d => (d.1, d.2)) = l := by
          rw [List.filter_eq_self.mpr fun _ _ => rfl]
          exact List.map_id _
        rw [el] at e4
        refine ⟨_, rfl, D2, l, x, a, zs, rfl, rdk e4, (t.ok x hxk).ne, ea, t.root, hz, by omega, fun H5 s6 => ⟨false, rfl, ?_⟩⟩
        exact rd_ite (fun e => by cases e) (fun _ => ⟨_, _, _, rfl, (s3.trans s5).trans s6⟩)
    refine ⟨_, rfl, rd_cval T.v_Forest_ROOT ⟨rfl, _, rfl, ?_⟩⟩
    refine rd_ite (fun ha => ?_) (fun _ => ?_)
    · refine ⟨_, rfl, _, rfl, d, _, rfl, dget_r (s4.rd hd.rd) a, _, rfl, ?_⟩
      have ha2 : ¬ a = "" := by simpa using ha
      obtain ⟨b, eb⟩ := (t.up ea).resolve_left ha2
      rw [eb]
      exact rd_ite (fun e => by cases e) (fun _ => rest _ s3)
    · exact rd_ite (fun e => by cases e) (fun _ => rest _ s3)
end
end K31
set_option Elab.async false
set_option linter.all false
set_option maxRecDepth 100000
set_option maxHeartbeats 4000000
namespace K31
open PySem PySem.Spec PyProof.Rows L2 He
open C8 (Cal Met Mak pe_c pe_mk pe_mt pe_mt0 pe_gc)
section
variable {P : Program} {w : World} {K : PySem.W.Frag} {mg : Str → Option Value} {base : Heap}
/-- an __init__ of the text, by its body -/
theorem mak_of {x : Str} {st : Stmt} {N ps : List Str} {k : Nat} {sp : Sp} {f : Addr} (F : FnP K "__init__" (x ++ ".__init__") st [] f) (M : Mk K (ga K x) f) (hm : mg x = some (.ref (ga K x))) (S : FnScope N ps (defScope st)) (len : ∀ vs H Q E, sp vs H Q E → vs.length = ps.length)
    (bd : ∀ (kV doc pm : Value) (an : Option Addr) (cdv ct : Value) (us : List Value), us.length = ps.length → bindArgs (PySem.W.fnOf "__init__" (x ++ ".__init__") (defArgs st) (defBody st) (defScope st) .none kV doc pm an cdv ct) ⟨us, []⟩ = pure (ps.zip us))
    (hbody : ∀ (f : Addr) (cdv : Value) (A : Around) (outer : List Env) (s : Shared) (H : Hp) (vs : List V) (Q : VK) (E : XK), Room k (A.deeper (envOfC (x ++ ".__init__") (defScope st) s.heap.objs.size f cdv)) → sp vs H Q E →
      ∃ t, PSs (cxOf CX0 P w K mg base N (x ++ ".__init__") (defScope st) f cdv A outer s H E).nox (defBody st) t ∧ t { nx := fun _ H' => Q .non H', rt := Q } (L2.start N vs) H) : Mak P w K mg base (k + 1) x (ga K x) sp [] := by
  obtain ⟨fd, F⟩ := F
  refine ⟨f, fd, ps, [], M, F.ok S len fun cdv A outer s H vs Q E hr h => ?_, hm, F.bindsN bd, .nil⟩
  obtain ⟨t, h1, h2⟩ := hbody _ cdv A outer s H vs Q E hr h
  exact ⟨t, h1.nox, h2⟩
/-- a method of the text -/
theorem met_of {C m q : Str} {st : Stmt} {N ps : List Str} {k : Nat} {sp : Sp} {f : Addr} (F : FnP K m q st [] f) (c : Cls K (ga K C)) (me : Meth K (ga K C) m f) (S : FnScope N ps (defScope st)) (len : ∀ vs H Q E, sp vs H Q E → vs.length = ps.length)
    (bd : ∀ (kV doc pm : Value) (an : Option Addr) (cdv ct : Value) (us : List Value), us.length = ps.length → bindArgs (PySem.W.fnOf m q (defArgs st) (defBody st) (defScope st) .none kV doc pm an cdv ct) ⟨us, []⟩ = pure (ps.zip us))
    (hbody : ∀ (f : Addr) (cdv : Value) (A : Around) (outer : List Env) (s : Shared) (H : Hp) (vs : List V) (Q : VK) (E : XK), Room k (A.deeper (envOfC q (defScope st) s.heap.objs.size f cdv)) → sp vs H Q E →
      ∃ t, PSs (cxOf CX0 P w K mg base N q (defScope st) f cdv A outer s H E).nox (defBody st) t ∧ t { nx := fun _ H' => Q .non H', rt := Q } (L2.start N vs) H) : Met P w K mg base (k + 1) (ga K C) m sp [] := by
  obtain ⟨fd, F⟩ := F
  refine ⟨f, fd, ps, [], c, me, F.ok S len fun cdv A outer s H vs Q E hr h => ?_, F.bindsN bd, .nil⟩
  obtain ⟨t, h1, h2⟩ := hbody _ cdv A outer s H vs Q E hr h
  exact ⟨t, h1.nox, h2⟩
/-- a getter of the text -/
def PrpOk (P : Program) (w : World) (K : PySem.W.Frag) (mg : Str → Option Value) (base : Heap) (k : Nat) (C : Addr) (m : Str) (sp : Sp) : Prop :=
  ∃ (p g : Addr) (fd : FuncData), Cls K C ∧ PropOf K C m p g ∧ FnOk P w K mg base CX0 k g fd ["self"] sp ∧ Binds K fd ["self"] []
theorem pr_of {C m q : Str} {st : Stmt} {N : List Str} {k : Nat} {sp : Sp} {f : Addr} (F : FnP K m q st [] f) (c : Cls K (ga K C)) (pr : ∃ p, PropOf K (ga K C) m p f) (S : FnScope N ["self"] (defScope st)) (len : ∀ vs H Q E, sp vs H Q E → vs.length = 1)
    (bd : ∀ (kV doc pm : Value) (an : Option Addr) (cdv ct : Value) (us : List Value), us.length = (["self"] : List Str).length → bindArgs (PySem.W.fnOf m q (defArgs st) (defBody st) (defScope st) .none kV doc pm an cdv ct) ⟨us, []⟩ = pure ((["self"] : List Str).zip us))
    (hbody : ∀ (f : Addr) (cdv : Value) (A : Around) (outer : List Env) (s : Shared) (H : Hp) (vs : List V) (Q : VK) (E : XK), Room k (A.deeper (envOfC q (defScope st) s.heap.objs.size f cdv)) → sp vs H Q E →
      ∃ t, PSs (cxOf CX0 P w K mg base N q (defScope st) f cdv A outer s H E).nox (defBody st) t ∧ t { nx := fun _ H' => Q .non H', rt := Q } (L2.start N vs) H) : PrpOk P w K mg base (k + 1) (ga K C) m sp := by
  obtain ⟨fd, F⟩ := F
  obtain ⟨p, hp⟩ := pr
  refine ⟨p, f, fd, c, hp, F.ok S len fun cdv A outer s H vs Q E hr h => ?_, F.bindsN bd⟩
  obtain ⟨t, h1, h2⟩ := hbody _ cdv A outer s H vs Q E hr h
  exact ⟨t, h1.nox, h2⟩
theorem pe_pr {X : Cx} {j k : Nat} {C : Addr} {m : Str} {sp : Sp} {e : Expr} {ta : TE} {pos : Pos} (c : PrpOk X.prog X.w X.K X.mg X.base k C m sp) (hr : Room j X.A) (hk : k + 1 ≤ j) (he : PE X e ta)
    (hab : attributeBase e m X.env (eval e X.env) = eval e X.env := by rfl) : PE X (.Attribute e m pos) (tProp C sp [] E0 ta) := by
  obtain ⟨p, g, fd, hc, hp, F, b⟩ := c
  exact pe_prop he hc hp F (hr.mono hk) b .nil pass0 hab

/-! ### Forest -/
/-- a forest of the program: its dict, in order -/
def ForestAt (K : PySem.W.Frag) (H : Hp) (p : Addr) (l : List (Str × Str)) : Prop := ∃ dx d, H p = some (.ins (ga K "Forest") dx [("above", .ref d)]) ∧ FDf V.str H d l
theorem Sub.forest {K : PySem.W.Frag} {H H' : Hp} {p : Addr} {l : List (Str × Str)} (s : Sub H H') (h : ForestAt K H p l) : ForestAt K H' p l := let ⟨dx, d, e, f⟩ := h; ⟨dx, d, s _ _ e, s.f f⟩
def sp_Forest_init (K : PySem.W.Frag) : Sp := fun vs H Q _ => ∃ (p d : Addr) (l : List (Str × Str)), vs = [.ref p, .ref d] ∧ (∃ dx, H p = some (.ins (ga K "Forest") dx [])) ∧ FDf V.str H d l ∧ Tree l ∧
  ∀ (d' : Addr) (H' : Hp) (ns : List Str), ns.Perm (l.map (·.1)) → sortedS ns = true → H d' = none → (∀ b o, b ≠ p → H b = some o → H' b = some o) → (∃ dx, H' p = some (.ins (ga K "Forest") dx [("above", .ref d')])) → FDf V.str H' d' (srtd ns l) → Q .non H'
abbrev n_Forest_init : List Str := ["self", "parents", "name"]
theorem sc_Forest_init : FnScope n_Forest_init ["self", "parents"] (defScope mForest_init) := ⟨rfl, rfl, rfl, by decide +kernel, rfl, by decide +kernel, by decide +kernel⟩
theorem mk_Forest (T : Txt K mg) : Mak P w K mg base 3 "Forest" (ga K "Forest") (sp_Forest_init K) [] := by
  refine mak_of T.f_Forest_init T.k_Forest T.g_Forest sc_Forest_init (fun vs H Q E h => ?_) (fun _ _ _ _ _ _ us hl => match us, hl with | [_, _], _ => rfl) (fun f cdv A outer s H vs Q E hr h => ?_)
  · obtain ⟨p, d, l, rfl, _⟩ := h
    rfl
  · obtain ⟨p, d, l, rfl, ⟨dx, hp⟩, hd, t, k⟩ := h
    have hu := hu_of hr
    refine ⟨_, (pss_cons (ps_expr (pe_c (ok_need_parents T) hr (by decide) rfl (pa_cons (pv 1) pa_nil)))
  (pss_one (ps_fld (pv 0) (pe_freeze (pe_dc (own := [("name", 2)]) (g := (gName 2)) (tt := tYes) (tk := (tVar 2)) (tv := (tDGet (tVar 1) (tVar 2))) rfl sc_Forest_init.nd (pi_list (pe_callB (c_sortedD rfl) rfl T.n_sorted (by decide +kernel) (pa_cons (pv 1) pa_nil))) (blkOk_by (N := n_Forest_init) (sc := defScope mForest_init) (by decide +kernel)) (fun _ _ _ _ _ => (pg_name (i := 2) sc_Forest_init.nd rfl (.inl rfl))) (fun _ _ _ _ _ => pts_nil) (fun _ _ _ _ _ => (pv 2)) (fun _ _ _ _ _ => (pe_dget hu (pv 1) (pv 2) (fun _ _ => rfl))))) rfl))), ?_⟩
    refine ⟨_, rfl, d, l, rfl, hd, t, fun H1 s1 => ?_⟩
    have h2 := t.hi
    refine ⟨_, rfl, d, _, l.map (·.1), rfl, s1.rd hd.rd, by unfold kS; rw [List.map_map, List.map_map]; rfl, by rw [List.length_map]; omega, fun ns q hpm hs n2 => ?_⟩
    have s2 := s1.trans (Sub.new (o := .lst (ns.map V.str)) n2)
    have hnl : ns.length = l.length := by rw [hpm.length_eq, List.length_map]
    refine ⟨q, rfl, ⟨_, SqL.of upd_same⟩, k_dcD (toV := V.str) (walkL (K := K) (a := q) (data := ns) (f := V.str)) (fun H' s => SqL.of (s _ _ upd_same)) (fun _ => true) id V.str (fun n => (aGet l n).getD "") (by omega)
      (by rw [List.filter_eq_self.mpr fun _ _ => rfl, List.map_id]; exact hpm.nodup_iff.mpr t.nd) (fun _ _ _ _ _ => evB_yes) (fun i n H' _ _ s Q q => ⟨_, rfl, q _ _ (Sub.refl _) rfl⟩) (fun i n H' hn _ s Q q => ?_) (fun D H3 n3 s3 e3 => ?_)⟩
    · obtain ⟨a, ea⟩ := aGet_some (hpm.mem_iff.mp (List.mem_of_getElem? hn))
      exact ⟨_, rfl, _, rfl, d, .str a, rfl, (by have := dget_r ((s2.trans s).rd hd.rd) n; rwa [ea] at this), q _ _ (Sub.refl _) (by simp [ea])⟩
    · rw [List.filter_eq_self.mpr fun _ _ => rfl] at e3
      have e3 : H3 D = some (.dK (kS V.str (srtd ns l))) := e3
      refine ⟨D, _, rfl, e3, True.intro, fun o => ?_⟩
      have s4 := s2.trans s3
      have nD : H D = none := s2.fresh n3
      have s5 : Sub H (upd H3 D (.frz o (.dK (kS V.str (srtd ns l))))) := s4.mut nD
      have e5 : (upd H3 D (.frz o (.dK (kS V.str (srtd ns l))))) p = some (.ins (ga K "Forest") dx []) := s5 _ _ hp
      refine ⟨_, rfl, p, ga K "Forest", dx, [], rfl, e5, T.c_Forest, T.a_Forest_above, by show 0 < 1000; decide, ?_⟩
      have npd : D ≠ p := fun z => by rw [z, hp] at nD; cases nD
      refine k D _ ns hpm hs nD (fun b o' hb e => by rw [upd_ne hb]; exact s5 _ _ e) ⟨dx, upd_same⟩ ⟨o, (upd_ne npd).trans upd_same⟩
/-- Forest(parents) -/
theorem rd_Forest {H : Hp} {d : Addr} {l : List (Str × Str)} {Q : Addr → Hp → Prop} {E : XK} (hd : FDf V.str H d l) (t : Tree l) (k : ∀ (x : Addr) (H' : Hp) (ns : List Str), ns.Perm (l.map (·.1)) → sortedS ns = true → H x = none → Sub H H' → ForestAt K H' x (srtd ns l) → Q x H') :
    ∀ x dx, H x = none → H dx = none → dx ≠ x → sp_Forest_init K [.ref x, .ref d] (upd (upd H dx (.own x)) x (.ins (ga K "Forest") dx [])) (fun v H2 => v = .non ∧ Q x H2) E := fun x dx nx nd ne => by
  have s1 : Sub H (upd (upd H dx (.own x)) x (.ins (ga K "Forest") dx [])) := (Sub.new nd).mut nx
  refine ⟨x, d, l, rfl, ⟨dx, upd_same⟩, s1.f hd, t, fun d' H' ns h1 h2 h3 h4 ⟨dx', h5⟩ h6 => ⟨rfl, ?_⟩⟩
  exact k x H' ns h1 h2 nx (fun b o e => h4 b o (ne_of_none e nx) (s1 b o e)) ⟨dx', d', h5, h6⟩
def sp_Forest_flags (K : PySem.W.Frag) : Sp := fun vs H Q _ => ∃ (p : Addr) (l : List (Str × Str)), vs = [.ref p] ∧ ForestAt K H p l ∧ ∀ (q : Addr) (H' : Hp), H q = none → Sub H H' → H' q = some (.lst ((l.map (·.1)).map V.str)) → Q (.ref q) H'
abbrev n_Forest_flags : List Str := ["self"]
theorem sc_Forest_flags : FnScope n_Forest_flags ["self"] (defScope mForest_flags) := ⟨rfl, rfl, rfl, by decide +kernel, rfl, by decide +kernel, by decide +kernel⟩
theorem ok_Forest_flags (T : Txt K mg) : PrpOk P w K mg base 1 (ga K "Forest") "flags" (sp_Forest_flags K) := by
  refine pr_of T.f_Forest_flags T.c_Forest T.p_Forest_flags sc_Forest_flags (fun vs H Q E h => ?_) (fun _ _ _ _ _ _ us hl => match us, hl with | [_], _ => rfl) (fun f cdv A outer s H vs Q E hr h => ?_)
  · obtain ⟨p, l, rfl, _⟩ := h
    rfl
  · obtain ⟨p, l, rfl, ⟨dx, d, hp, hd⟩, k⟩ := h
    refine ⟨_, (pss_one (ps_ret (pe_callTy (c_listD rfl) rfl T.n_list (by decide +kernel) (pa_cons (pe_fld (pv 0) rfl) pa_nil)))), ?_⟩
    refine ⟨_, rfl, p, _, dx, _, _, rfl, hp, T.c_Forest, T.a_Forest_above, rfl, d, _, rfl, hd.rd, fun q n => ?_⟩
    refine k q _ n (Sub.new n) ?_
    rw [upd_same]
    unfold kS
    rw [List.map_map, List.map_map]
    rfl
def sp_Forest_parents (K : PySem.W.Frag) : Sp := fun vs H Q _ => ∃ (p : Addr) (l : List (Str × Str)), vs = [.ref p] ∧ ForestAt K H p l ∧ ∀ (q : Addr) (H' : Hp), H q = none → Sub H H' → H' q = some (.dK (kS V.str l)) → Q (.ref q) H'
abbrev n_Forest_parents : List Str := ["self"]
theorem sc_Forest_parents : FnScope n_Forest_parents ["self"] (defScope mForest_parents) := ⟨rfl, rfl, rfl, by decide +kernel, rfl, by decide +kernel, by decide +kernel⟩
theorem ok_Forest_parents (T : Txt K mg) : PrpOk P w K mg base 1 (ga K "Forest") "parents" (sp_Forest_parents K) := by
  refine pr_of T.f_Forest_parents T.c_Forest T.p_Forest_parents sc_Forest_parents (fun vs H Q E h => ?_) (fun _ _ _ _ _ _ us hl => match us, hl with | [_], _ => rfl) (fun f cdv A outer s H vs Q E hr h => ?_)
  · obtain ⟨p, l, rfl, _⟩ := h
    rfl
  · obtain ⟨p, l, rfl, ⟨dx, d, hp, hd⟩, k⟩ := h
    refine ⟨_, (pss_one (ps_ret (pe_callTy c_dictD rfl T.n_dict (by decide +kernel) (pa_cons (pe_fld (pv 0) rfl) pa_nil)))), ?_⟩
    exact ⟨_, rfl, p, _, dx, _, _, rfl, hp, T.c_Forest, T.a_Forest_above, rfl, d, _, rfl, hd.rd, fun q n => k q _ n (Sub.new n) upd_same⟩
theorem pr_Forest_flags {X : Cx} {j : Nat} {e : Expr} {ta : TE} {pos : Pos} (T : Txt X.K X.mg) (hr : Room j X.A) (hk : 2 ≤ j) (he : PE X e ta) (hab : attributeBase e "flags" X.env (eval e X.env) = eval e X.env := by rfl) : PE X (.Attribute e "flags" pos) (tProp (ga X.K "Forest") (sp_Forest_flags X.K) [] E0 ta) := pe_pr (ok_Forest_flags T) hr hk he hab
theorem pr_Forest_parents {X : Cx} {j : Nat} {e : Expr} {ta : TE} {pos : Pos} (T : Txt X.K X.mg) (hr : Room j X.A) (hk : 2 ≤ j) (he : PE X e ta) (hab : attributeBase e "parents" X.env (eval e X.env) = eval e X.env := by rfl) : PE X (.Attribute e "parents" pos) (tProp (ga X.K "Forest") (sp_Forest_parents X.K) [] E0 ta) := pe_pr (ok_Forest_parents T) hr hk he hab
/-- forest.flags -/
theorem rd_flags {H : Hp} {p : Addr} {l : List (Str × Str)} {Q : VK} {E : XK} (h : ForestAt K H p l) (k : ∀ (q : Addr) (H' : Hp), H q = none → Sub H H' → H' q = some (.lst ((l.map (·.1)).map V.str)) → Q (.ref q) H') :
    ∃ a dx fs, V.ref p = .ref a ∧ H a = some (.ins (ga K "Forest") dx fs) ∧ sp_Forest_flags K [.ref a] H Q E := by
  obtain ⟨dx, d, hp, hd⟩ := id h
  exact ⟨p, dx, _, rfl, hp, p, l, rfl, h, k⟩
theorem rd_parents {H : Hp} {p : Addr} {l : List (Str × Str)} {Q : VK} {E : XK} (h : ForestAt K H p l) (k : ∀ (q : Addr) (H' : Hp), H q = none → Sub H H' → H' q = some (.dK (kS V.str l)) → Q (.ref q) H') :
    ∃ a dx fs, V.ref p = .ref a ∧ H a = some (.ins (ga K "Forest") dx fs) ∧ sp_Forest_parents K [.ref a] H Q E := by
  obtain ⟨dx, d, hp, hd⟩ := id h
  exact ⟨p, dx, _, rfl, hp, p, l, rfl, h, k⟩

/-! ### places_of -/
def sp_places_of (K : PySem.W.Frag) : Sp := fun vs H Q _ => ∃ (p : Addr) (l : List (Str × Str)), vs = [.ref p] ∧ ForestAt K H p l ∧ l.length ≤ 12 ∧ ∀ (q : Addr) (H' : Hp), H q = none → Sub H H' → H' q = some (.lst ((("" : Str) :: l.map (·.1)).map V.str)) → Q (.ref q) H'
abbrev n_places_of : List Str := ["forest"]
theorem sc_places_of : FnScope n_places_of ["forest"] (defScope splaces_of) := ⟨rfl, rfl, rfl, by decide +kernel, rfl, by decide +kernel, by decide +kernel⟩
theorem ok_places_of (T : Txt K mg) : Cal P w K mg base 3 "places_of" (sp_places_of K) [] := by
  refine cal_of T.f_places_of T.g_places_of sc_places_of (fun vs H Q E h => ?_) (fun _ _ _ _ _ _ us hl => match us, hl with | [_], _ => rfl) (fun f cdv A outer s H vs Q E hr h => ?_)
  · obtain ⟨p, l, rfl, _⟩ := h
    rfl
  · obtain ⟨p, l, rfl, hf, hl, k⟩ := h
    refine ⟨_, (pss_one (ps_ret (pe_op op_cat (pe_lst (pa_cons (ClX.pe_cval (pe_cls rfl T.g_Forest)) pa_nil)) (pr_Forest_flags T hr (by decide) (pv 0))))), ?_⟩
    refine rd_cval (σ := []) T.v_Forest_ROOT ⟨by decide, fun p1 n1 => ⟨_, rfl, rd_flags ((Sub.new n1).forest hf) fun q H2 n2 s2 e2 => ?_⟩⟩
    have s3 := (Sub.new (o := .lst [V.str ""]) n1).trans s2
    refine ⟨p1, q, [V.str ""], _, rfl, rfl, s2 _ _ upd_same, e2, sz (by simp; omega), fun r n3 => ?_⟩
    exact k r _ (s3.fresh n3) (s3.trans (Sub.new n3)) upd_same
end
end K31
set_option Elab.async false
set_option linter.all false
set_option maxRecDepth 100000
set_option maxHeartbeats 4000000
/-! enumerate over a tuple. -/
namespace K31
open PySem PySem.Spec PyProof.Rows L2 He
def tupIt (l : Addr) : Obj := { cls := .type "tuple_iterator", data := .fields #[.ref l, .int 0 0] }
def enumO (it : Addr) : Obj := { cls := .type "enumerate", data := .fields #[.none, .bool false, .ref it, rawInt 0, .none, .none] }
set_option maxHeartbeats 1000000 in
theorem meets_enumT (l : Addr) (items : Array Value) :
    Meets (Builtin.«enumerate.__new__» ⟨[.type "enumerate", .ref l], []⟩) (fun _ R s => s.heap.IsTuple l items ∧
      R (.ok (.ret (.ref (s.heap.push (tupIt l)).objs.size))) { s with heap := (s.heap.push (tupIt l)).push (enumO s.heap.objs.size) }) :=
  .of_wp fun prog w A R s h => by
    obtain ⟨hp, g, d, tk, os⟩ := s
    obtain ⟨hl, h⟩ := h
    have hsub := sub_enumerate
    wp_walk
    refine wpAny_stack_any fun st => wpAny_pure ?_
    split
    · rename_i c _ _ _ _ _
      cases (c == Value.type "enumerate")
      · wp_walk using (wpAny_pyIter_tuple hl)
        exact ⟨_, rfl, h⟩
      · wp_walk using (wpAny_pyIter_tuple hl)
        exact ⟨_, rfl, h⟩
    · wp_walk using (wpAny_pyIter_tuple hl)
      exact ⟨_, rfl, h⟩
section
variable {prog : Program} {w : World} {A : Around} {E : Value → Shared → Prop} {s : Shared}
theorem call_enumT {l : Addr} {items : Array Value} {Q : Value → Shared → Prop} (hL : s.heap.IsTuple l items)
    (h : ∀ h', IsEnum h' (s.heap.objs.size + 1) s.heap.objs.size 0 .none → h'.IsTupleIter s.heap.objs.size l 0 → (∀ b o, s.heap.get? b = some o → h'.get? b = some o) → Q (.ref (s.heap.objs.size + 1)) { s with heap := h' }) :
    wpAny (model prog w) A (call (.type "enumerate") [.ref l]) Q E s := by
  refine callType_new F.called_enumerate (by decide) (F.typeCall_enumerate_1 _) (F.newCall_enumerate_1 _) (fun obj => F.args_object_init_2 obj _) F.entry_enumerate_new (meets_enumT l items) ⟨hL, ?_⟩
  have hz : (s.heap.push (tupIt l)).objs.size = s.heap.objs.size + 1 := Heap.size_push ..
  show _ ∧ _
  rw [hz]
  have he : IsEnum ((s.heap.push (tupIt l)).push (enumO s.heap.objs.size)) (s.heap.objs.size + 1) s.heap.objs.size 0 .none := by
    have := Heap.get?_push_size (s.heap.push (tupIt l)) (o := enumO s.heap.objs.size) rfl
    rw [hz] at this; exact this
  exact ⟨⟨_, he, rfl⟩, h _ he ⟨_, Heap.get?_push_of_some _ (Heap.get?_push_size _ rfl), rfl, rfl⟩ fun b o x => Heap.get?_push_of_some _ (Heap.get?_push_of_some _ x)⟩
end
/-- the tuple at a, each item in a new pair -/
def ItE (K : PySem.W.Frag) (a : Addr) : It :=
  ⟨fun i H => ∃ (xs : List V) (x : V), SqT K H a xs ∧ xs[i]? = some x, fun i H v H' => ∃ T x, v = .ref T ∧ H T = none ∧ H' = upd H T (.tup [.int (i : Nat), x]) ∧ ∀ xs, SqT K H a xs → xs[i]? = some x, fun i H => ∃ xs : List V, SqT K H a xs ∧ xs.length = i⟩
theorem turn_enumT {P : Program} {w : World} {K : PySem.W.Frag} {elts : List Expr} {kk : Nat} {tpos : Pos} (a e it : Addr) :
    Turn P w K (.Tuple elts kk tpos) (ItE K a) [e, it] e (fun i h => (∃ old, IsEnum h e it ((i : Nat) : Int) old) ∧ h.IsTupleIter it a i ∧ e ≠ it) where
  mem := by simp
  obj := fun i h st b hb => by
    obtain ⟨⟨old, he⟩, ⟨o, ho, hc, hd⟩, _⟩ := st
    have e' : b = e ∨ b = it := by simpa using hb
    rcases e' with z | z
    · subst z
      exact ⟨_, he, fun v q => nomatch q⟩
    · subst z
      exact ⟨o, ho, fun v q => by rw [hd] at q; cases q⟩
  keep := fun i h h' st k => let ⟨⟨old, he⟩, hi, hne⟩ := st; ⟨⟨old, k e (by simp) _ he⟩, hi.at fun o q => k it (by simp) o q, hne⟩
  item := by
    intro X hP hw hK hc i pins s σ H E I hf st hg
    subst hP hw hK
    obtain ⟨⟨old, he⟩, hit, hne⟩ := st
    obtain ⟨xs, x, hq, hx⟩ := hg
    obtain ⟨its, rv, p, hz⟩ := I.tuple hq
    obtain ⟨u, hu, ru⟩ := rv.get hx
    have hil : it < s.heap.objs.size := by obtain ⟨_, q, _⟩ := hit; exact Heap.lt_size q
    have hel : e < s.heap.objs.size := Heap.lt_size he
    have p' : s.heap.IsTuple a its.toArray := p
    obtain ⟨oA, hoA, hcA, nA, hdA⟩ := id p
    have nea : ∀ {b : Addr} {ob : Obj}, s.heap.get? b = some ob → ob.cls ≠ .type "tuple" → a ≠ b := fun {b ob} h1 h2 z => by
      rw [← z, hoA] at h1
      cases h1
      exact h2 hcA
    have hai : a ≠ it := by
      obtain ⟨oi, h1, h2, _⟩ := id hit
      exact nea h1 (by rw [h2]; decide)
    have hae : a ≠ e := nea he fun q => absurd (Value.type.inj q) (by decide)
    have hlt : i < its.toArray.size := by
      have := (List.getElem?_eq_some_iff.mp hu).1
      simpa using this
    refine wpAny_pyNext_enum_itemD (D := Draws.tuple (prog := X.prog) (w := X.w) (A := X.A.in1) (I.ok.hd hc) it a hai its.toArray) he ⟨hit, p'⟩ hlt hne (by simp [hne, hae.symm]) fun y h' tk hy ho st' hT hsz hk => ?_
    have ey : y = u := by
      have hy' : its.toArray[i]? = some y := hy
      rw [List.getElem?_toArray, hu] at hy'
      exact (Option.some.inj hy').symm
    subst ey
    refine ⟨_, rfl, wpAny_letOwnedTupleGo_enum (s := { s with heap := h', toks := tk + 1 }) ho fun h'' he' sb => ?_⟩
    have hT2 : h''.get? s.heap.objs.size = some { cls := .type "tuple", data := .seq #[.int i tk, y] } := (sb.2 _ (Nat.ne_of_gt hel)).trans hT
    have new : ObjOk X.prog X.w (upd H s.heap.objs.size (.tup [.int (i : Nat), x])) h'' s.heap.objs.size (.tup [.int (i : Nat), x]) :=
      ⟨by show 2 ≤ sizeLine; decide, [.int i tk, y], .cons ⟨_, rfl⟩ (.cons ru .nil), ⟨_, hT2, rfl, _, rfl⟩⟩
    have I1 : Inv X pins σ (upd H s.heap.objs.size (.tup [.int (i : Nat), x])) { s with heap := h'', toks := tk + 1 } :=
      I.turnedNew (ch := [e, it]) (fun b ob hb q => (sb.2 b (fun z => hb (by simp [z]))).trans (hk b ob (fun z => hb (by simp [z])) (fun z => hb (by simp [z])) q)) hf (Nat.le_refl _) new
    refine ⟨.ref s.heap.objs.size, _, I1, rfl, ⟨_, x, rfl, I.hok.fresh (Nat.le_refl _), rfl, fun ys hy => by rw [I.tuple_inj hy hq]; exact hx⟩, ⟨⟨y, ?_⟩, st'.1.at fun o q => (sb.2 it (Ne.symm hne)).trans q, hne⟩, fun b hb => ?_⟩
    · have e1 : ((i + 1 : Nat) : Int) = (i : Int) + 1 := by omega
      rw [e1]; exact he'
    · have hb' : b < s.heap.objs.size := by
        have e' : b = e ∨ b = it := by simpa using hb
        rcases e' with z | z
        · rw [z]; exact hel
        · rw [z]; exact hil
      exact (upd_ne (Nat.ne_of_lt hb')).trans (hf b hb).1
  done := by
    intro X hP hw hK hc i pins s σ H E I hf st hg
    subst hP hw hK
    obtain ⟨⟨old, he⟩, hit, hne⟩ := st
    obtain ⟨xs, hq, hx⟩ := hg
    obtain ⟨its, rv, p, hz⟩ := I.tuple hq
    obtain ⟨f0, f1, f2, f3, f4, f5⟩ := hf it (by simp)
    have hl := rv.length
    obtain ⟨oA, hoA, hcA, nA, hdA⟩ := id p
    have hai : a ≠ it := fun z => by
      obtain ⟨oi, h1, h2, _⟩ := id hit
      rw [← z, hoA] at h1
      cases h1
      rw [hcA] at h2
      exact absurd h2 (by decide)
    have hsz : its.toArray.size = i := by simp; omega
    have st' : s.heap.IsTupleIter it a its.toArray.size := by rw [hsz]; exact hit
    exact wpAny_pyNext_enum_endD (D := Draws.tuple (prog := X.prog) (w := X.w) (A := X.A.in1) (I.ok.hd hc) it a hai its.toArray) he ⟨st', p⟩ fun h' eb => ⟨rfl, I.turned (t' := s.toks) (fun b o hb q => eb b o hb q) f0 f1 f3 f4 f5⟩
  self := fun A i s Q E st h => let ⟨⟨_, he⟩, _⟩ := st; wpAny_pyIter_enum he h
def iEnumT (K : PySem.W.Frag) (ta : TA) : TI := fun σ H R => ta σ H fun vs H1 => ∃ a xs, vs = [.ref a] ∧ SqT K H1 a xs ∧ R (ItE K a) H1
theorem pi_enumT {X : Cx} {e : Expr} {ta : TA} {p pos tpos : Pos} {elts : List Expr} {kk : Nat} (hg : Gl X "enumerate") (hm : X.mg "enumerate" = none) (ha : PA X [e] ta) (hs : starEach [e] X.env = [(false, eval e X.env)] := by rfl) :
    PI X (.Tuple elts kk tpos) (.Call (.Name "enumerate" p) [e] [] pos) (iEnumT X.K ta) := by
  refine ⟨fun pins s σ H R I h => ?_⟩
  refine Call_ (ld_blt I hg hm boot_enumerate (PyProof.Rows.callWith_type1 (thn (ha.run pos pins s σ H _ I h) fun us s1 ⟨vs, H1, I1, r1, q1⟩ => ?_) hs rfl))
  obtain ⟨a, xs, ex, hq, q⟩ := q1
  subst ex
  cases r1 with
  | cons r rr =>
    cases rr
    cases r
    obtain ⟨its, rv, p', hz⟩ := I1.tuple hq
    refine call_enumT (show s1.heap.IsTuple a its.toArray from p') fun h' he hit hk => wpAny_pyIter_enum he ?_
    have I2 : Inv X pins σ H1 { s1 with heap := h' } := I1.kept (t' := s1.toks) hk
    refine ⟨s1.heap.objs.size + 1, [s1.heap.objs.size + 1, s1.heap.objs.size], _, _, H1, rfl, I2, turn_enumT a (s1.heap.objs.size + 1) s1.heap.objs.size, ⟨⟨.none, he⟩, hit, Nat.succ_ne_self _⟩, fun b hb => ?_, q⟩
    have hle : s1.heap.objs.size ≤ b := by
      have e' : b = s1.heap.objs.size + 1 ∨ b = s1.heap.objs.size := by simpa using hb
      rcases e' with z | z <;> rw [z]
      · exact Nat.le_add_right _ _
      · exact Nat.le_refl _
    exact I1.fpOk hle (I1.hok.fresh hle)
theorem walk_enumT {K : PySem.W.Frag} {a : Addr} {xs : List V} : Walk (ItE K a) xs.length (fun H => SqT K H a xs) (YPair (fun i => some (.int (i : Nat))) (fun i => xs[i]?)) := by
  refine ⟨fun i _ hi q => ⟨xs, xs[i], q, by simp [hi]⟩, fun _ q => ⟨xs, q, rfl⟩, fun i H v H' _ q y => ?_⟩
  obtain ⟨T, x, h1, h2, h3, h4⟩ := y
  exact ⟨T, .int (i : Nat), x, h1, h2, h3, rfl, h4 xs q⟩
end K31
set_option Elab.async false
set_option linter.all false
set_option maxRecDepth 100000
set_option maxHeartbeats 4000000
namespace K31
open PySem PySem.Spec PyProof.Rows L2 He
open C8 (Cal Met Mak pe_c pe_mk pe_mt pe_mt0 pe_gc)
/-! ### the sorted names -/
noncomputable def srt (l : List Str) : List Str := Classical.choose (sorted_is l)
theorem srt_perm (l : List Str) : (srt l).Perm l := (Classical.choose_spec (sorted_is l)).1
theorem srt_sorted (l : List Str) : sortedS (srt l) = true := (Classical.choose_spec (sorted_is l)).2
theorem srt_is {ns l : List Str} (p : ns.Perm l) (h : sortedS ns = true) : ns = srt l := sorted_one (p.trans (srt_perm l).symm) h (srt_sorted l)
/-- the parents in the order of a forest -/
noncomputable def nf (l : List (Str × Str)) : List (Str × Str) := srtd (srt (l.map (·.1))) l
theorem nf_get {l : List (Str × Str)} : ∀ x, aGet (nf l) x = aGet l x := srtd_get (srt_perm _)
theorem nf_keys {l : List (Str × Str)} : (nf l).map (·.1) = srt (l.map (·.1)) := srtd_keys
theorem nf_len {l : List (Str × Str)} : (nf l).length = l.length := by
  have h := congrArg List.length (nf_keys (l := l))
  rw [List.length_map, (srt_perm _).length_eq, List.length_map] at h
  exact h
/-- a dict over places -/
def fnL (pl : List Str) (r : Str → Int) : List (Str × Int) := pl.map fun p => (p, r p)
theorem fnL_keys {pl : List Str} {r : Str → Int} : (fnL pl r).map (·.1) = pl := by
  unfold fnL
  rw [List.map_map]
  exact List.map_id _
theorem fnL_get {pl : List Str} {r : Str → Int} {k : Str} (h : k ∈ pl) : aGet (fnL pl r) k = some (r k) := by
  unfold fnL aGet
  induction pl with
  | nil => simp at h
  | cons p pl ih =>
    rw [List.map_cons, List.find?_cons]
    by_cases e : p = k
    · subst e
      simp
    · rw [decide_eq_false (show ¬ (p, r p).1 = k from e)]
      exact ih ((List.mem_cons.mp h).resolve_left fun z => e z.symm)
theorem fnL_put {pl : List Str} {r : Str → Int} {k : Str} {v : Int} (h : k ∈ pl) : aPut (fnL pl r) k v = fnL pl fun p => if p = k then v else r p := by
  unfold aPut
  rw [if_pos (show ((fnL pl r).any fun e => decide (e.1 = k)) = true from List.any_eq_true.mpr ⟨(k, r k), List.mem_map.mpr ⟨k, h, rfl⟩, decide_eq_true rfl⟩)]
  unfold fnL
  rw [List.map_map]
  refine List.map_congr_left fun p _ => ?_
  show (if p = k then (p, v) else (p, r p)) = (p, if p = k then v else r p)
  by_cases e : p = k <;> simp [e]
section
variable {P : Program} {w : World} {K : PySem.W.Frag} {mg : Str → Option Value} {base : Heap}

/-! ### is_integer -/
/-- how it answers -/
def geV (m : Int) : V → Bool
  | .int i => decide (m ≤ i)
  | _ => false
/-- a thing whose type is told -/
def KindV (K : PySem.W.Frag) (H : Hp) (x : V) : Prop := (∃ i, x = .int i) ∨ (∃ b, x = .bl b) ∨ ∃ n, TyX K H x (.type n) ∧ kitB n "int" = some false
theorem geV_other {H : Hp} {x : V} {n : String} {m : Int} (ty : TyX K H x (.type n)) (h : kitB n "int" = some false) : geV m x = false := by
  cases x with
  | int i =>
    cases ty with
    | base b =>
      cases b
      exact absurd h (by decide +kernel)
  | _ => rfl
def sp_is_integer (K : PySem.W.Frag) : Sp := fun vs H Q _ => ∃ (x : V) (m : Int), vs = [x, .int m] ∧ KindV K H x ∧ ∀ H', Sub H H' → Q (.bl (geV m x)) H'
abbrev n_is_integer : List Str := ["value", "least"]
theorem sc_is_integer : FnScope n_is_integer ["value", "least"] (defScope sis_integer) := ⟨rfl, rfl, rfl, by decide +kernel, rfl, by decide +kernel, by decide +kernel⟩
theorem ok_is_integer (T : Txt K mg) : Cal P w K mg base 1 "is_integer" (sp_is_integer K) [] := by
  refine cal_of T.f_is_integer T.g_is_integer sc_is_integer (fun vs H Q E h => ?_) (fun _ _ _ _ _ _ us hl => match us, hl with | [_, _], _ => rfl) (fun f cdv A outer s H vs Q E hr h => ?_)
  · obtain ⟨x, m, rfl, _⟩ := h
    rfl
  · obtain ⟨x, m, rfl, hx, k⟩ := h
    have k := k H (Sub.refl _)
    refine ⟨_, (pss_one (ps_ret (pe_and (pe_callB call_isi rfl T.n_isinstance (by decide +kernel) (pa_cons (pv 0) (pa_cons (pe_ty (n := "int") rfl T.n_int (by decide +kernel)) pa_nil))) (pe_and (pe_not (pe_callB call_isi rfl T.n_isinstance (by decide +kernel) (pa_cons (pv 0) (pa_cons (pe_ty (n := "bool") rfl T.n_bool (by decide +kernel)) pa_nil)))) (pe_one (pe_cmpR op_ge (pv 0) (pv 1) (nomark _))))))), ?_⟩
    rcases hx with ⟨i, rfl⟩ | ⟨b, rfl⟩ | ⟨n, ty, hn⟩
    · refine ⟨_, rfl, _, _, _, _, true, rfl, .ty _, .base (.int i), kit_ty (by decide +kernel), true, rfl, ?_⟩
      refine iteT ?_
      refine ⟨_, rfl, _, _, _, _, false, rfl, .ty _, .base (.int i), kit_ty (by decide +kernel), false, rfl, true, rfl, iteT ?_⟩
      exact ⟨_, rfl, _, rfl, i, m, rfl, rfl, k⟩
    · refine ⟨_, rfl, _, _, _, _, true, rfl, .ty _, .base (.bl b), kit_ty (by decide +kernel), true, rfl, ?_⟩
      refine iteT ?_
      exact ⟨_, rfl, _, _, _, _, true, rfl, .ty _, .base (.bl b), kit_ty (by decide +kernel), true, rfl, false, rfl, k⟩
    · rw [geV_other ty hn] at k
      exact ⟨_, rfl, _, _, _, _, false, rfl, .ty _, ty, kit_ty hn, false, rfl, k⟩

/-! ### residents_of -/
def resStep (g : Str → Str) (z : Str → Int) (b : Str → Int) (m : Str) : Str → Int := fun p => if p = g m then b (g m) - z m else b p
def residOf (l : List (Str × Str)) (n : Int) (s : Str → Int) : Str → Int := (l.map (·.1)).foldl (resStep (fun m => (aGet l m).getD "") s) fun p => if p = "" then n else s p
/-- parents that are places -/
structure Web (l : List (Str × Str)) : Prop where
  nd : ((("" : Str) :: l.map (·.1))).Nodup
  hi : l.length ≤ 12
  up : ∀ m ∈ l.map (·.1), ∃ a, aGet l m = some a ∧ a ∈ ("" : Str) :: l.map (·.1)
def sp_residents_of (K : PySem.W.Frag) : Sp := fun vs H Q _ => ∃ (p s : Addr) (n : Int) (l : List (Str × Str)) (sl : List (Str × Int)), vs = [.ref p, .int n, .ref s] ∧ ForestAt K H p l ∧ Web l ∧ RD V.int H s sl ∧ (∀ m ∈ l.map (·.1), ∃ z, aGet sl m = some z) ∧
  ∀ (q : Addr) (H' : Hp), H q = none → Sub H H' → FDf V.int H' q (fnL (("" : Str) :: l.map (·.1)) (residOf l n fun m => (aGet sl m).getD 0)) → Q (.ref q) H'
abbrev n_residents_of : List Str := ["forest", "users", "sizes", "found", "parents", "name", "place"]
theorem sc_residents_of : FnScope n_residents_of ["forest", "users", "sizes"] (defScope sresidents_of) := ⟨rfl, rfl, rfl, by decide +kernel, rfl, by decide +kernel, by decide +kernel⟩
theorem ok_residents_of (T : Txt K mg) : Cal P w K mg base 4 "residents_of" (sp_residents_of K) [] := by
  refine cal_of T.f_residents_of T.g_residents_of sc_residents_of (fun vs H Q E h => ?_) (fun _ _ _ _ _ _ us hl => match us, hl with | [_, _, _], _ => rfl) (fun f cdv A outer s0 H vs Q E hr h => ?_)
  · obtain ⟨p, s, n, l, sl, rfl, _⟩ := h
    rfl
  · obtain ⟨p, s, n, l, sl, rfl, hf, W, hs, hk, k⟩ := h
    have hu := hu_of hr
    have h12 := W.hi
    refine ⟨_, (pss_cons (ps_setDc (i := 3) (own := [("place", 6)]) (g := (gName 6)) (tt := tYes) (tk := (tVar 6)) (tv := (tIf (tTest (tOp rEq (tVar 6) (ClX.tCVal K (tC (.ref (ga K "Forest"))) "ROOT"))) (tVar 1) (tDGet (tVar 2) (tVar 6)))) rfl sc_residents_of.nd rfl rfl (sw_trueD rfl rfl rfl (by decide +kernel)) (pi_list (pe_c (ok_places_of T) hr (by decide) rfl (pa_cons (pv 0) pa_nil))) (blkOk_by (N := n_residents_of) (sc := defScope sresidents_of) (by decide +kernel)) (fun _ _ _ _ _ => (pg_name (i := 6) sc_residents_of.nd rfl (.inl rfl))) (fun _ _ _ _ _ => pts_nil) (fun _ _ _ _ _ => (pv 6)) (fun _ _ _ _ _ => (pe_ifExp (pt_cmpR op_eq (pv 6) (ClX.pe_cval (pe_cls rfl T.g_Forest)) (nomark _)) (pv 1) (pe_dget hu (pv 2) (pv 6) (fun _ _ => rfl)))))
  (pss_cons (ps_set (i := 4) sc_residents_of.nd rfl (.inl rfl) (pr_Forest_parents T hr (by decide) (pv 0)))
  (pss_cons (ps_for PassesOwn.never rfl (pi_list (pr_Forest_flags T hr (by decide) (pv 0))) (pg_name (i := 5) sc_residents_of.nd rfl (.inl rfl))
  (pss_one (ps_dput hu (pv 3) (pe_dget hu (pv 4) (pv 5) (fun _ _ => rfl)) (pe_op op_sub (pe_dget hu (pv 3) (pe_dget hu (pv 4) (pv 5) (fun _ _ => rfl)) (fun _ _ => rfl)) (pe_dget hu (pv 2) (pv 5) (fun _ _ => rfl))) rfl)))
  (pss_one (ps_ret (pe_freeze (pv 3))))))), ?_⟩
    refine ⟨_, rfl, p, l, rfl, hf, h12, fun q0 H1 n1 s1 e1 => ⟨q0, rfl, ⟨_, SqL.of e1⟩, ?_⟩⟩
    refine k_dcD (toV := V.str) (walkL (K := K) (a := q0) (data := ("" : Str) :: l.map (·.1)) (f := V.str)) (fun H' s => s.l (SqL.of e1)) (fun _ => true) id V.int (fun p => if p = "" then n else (aGet sl p).getD 0) (by simp; omega)
      (by rw [List.filter_eq_self.mpr fun _ _ => rfl, List.map_id]; exact W.nd) (fun _ _ _ _ _ => evB_yes) (fun i n H' _ _ s Q q => ⟨_, rfl, q _ _ (Sub.refl _) rfl⟩) (fun i x H' hn _ s' Q q => ?_) (fun D H2 n2 s2 e2 => ?_)
    · refine ⟨_, rfl, rd_cval T.v_Forest_ROOT ⟨rfl, _, rfl, ?_⟩⟩
      by_cases hx : x = ""
      · subst hx
        refine rd_ite (fun _ => ⟨_, rfl, q _ _ (Sub.refl _) rfl⟩) (fun z => absurd z (by decide))
      · have hd : decide (V.str x = V.str "") = false := decide_eq_false fun z => hx (V.str.inj z)
        rw [hd]
        obtain ⟨z, ez⟩ := hk x ((List.mem_cons.mp (List.mem_of_getElem? hn)).resolve_left hx)
        refine rd_ite (fun z => absurd z (by decide)) (fun _ => ⟨_, rfl, _, rfl, s, .int z, rfl, (by have := dget_r ((s1.trans s').rd hs) x; rwa [ez] at this), q _ _ (Sub.refl _) ?_⟩)
        simp [hx, ez]
    rw [List.filter_eq_self.mpr fun _ _ => rfl] at e2
    have e2 : H2 D = some (.dK (kS V.int (fnL (("" : Str) :: l.map (·.1)) fun p => if p = "" then n else (aGet sl p).getD 0))) := e2
    have s12 := s1.trans s2
    have nD : H D = none := s1.fresh n2
    refine ⟨_, rfl, rd_parents (s12.forest hf) fun pa H3 n3 s3 e3 => ?_⟩
    refine ⟨_, rfl, rd_flags ((s12.trans s3).forest hf) fun q2 H4 n4 s4 e4 => ⟨q2, rfl, ⟨_, SqL.of e4⟩, ?_⟩⟩
    have s34 := s3.trans s4
    have e4D := s34 _ _ e2
    have npD : H4 pa = some (.dK (kS V.str l)) := s4 _ _ e3
    have ne1 : pa ≠ D := fun z => by rw [z, e2] at n3; cases n3
    have ne2 : q2 ≠ D := fun z => by rw [z, s3 _ _ e2] at n4; cases n4
    refine for_it (walkL (K := K) (a := q2) (data := l.map (·.1)) (f := V.str)) (fun i σ H' => ∃ o1 o2, σ = [some (.ref p), some (.int n), some (.ref s), some (.ref D), some (.ref pa), o1, o2] ∧ H' D = some (.dK (kS V.int (fnL (("" : Str) :: l.map (·.1)) (((l.map (·.1)).take i).foldl (resStep (fun m => (aGet l m).getD "") fun m => (aGet sl m).getD 0) fun p => if p = "" then n else (aGet sl p).getD 0)))) ∧ Sub H H' ∧ H' pa = some (.dK (kS V.str l)) ∧ H' q2 = some (.lst ((l.map (·.1)).map V.str)))
      ⟨_, _, rfl, e4D, s12.trans s34, npD, e4⟩ (fun i σ H' _ ⟨_, _, _, _, _, _, e⟩ => SqL.of e) ?_ (fun σ H' ⟨o1, o2, es, eD, sH, _, _⟩ => ?_)
    · rintro i x σ H5 H6 hi ⟨o1, o2, rfl, eD, sH, eP, eQ⟩ ⟨ez, ex⟩
      subst ez
      have hxm : x = V.str (l.map (·.1))[i] := by
        rw [ex]
        show V.str ((l.map (·.1)).getD i default) = _
        rw [List.getD_eq_getElem?_getD, List.getElem?_eq_getElem hi]
        rfl
      subst hxm
      have tk : (l.map (·.1)).take (i + 1) = (l.map (·.1)).take i ++ [(l.map (·.1))[i]] := by
        rw [List.take_add_one, List.getElem?_eq_getElem hi]; rfl
      have hm : (l.map (·.1))[i] ∈ l.map (·.1) := List.getElem_mem hi
      generalize hm0 : (l.map (·.1))[i] = m at hm tk
      generalize hr0 : (((l.map (·.1)).take i).foldl (resStep (fun m => (aGet l m).getD "") fun m => (aGet sl m).getD 0) fun p => if p = "" then n else (aGet sl p).getD 0) = r at eD
      obtain ⟨a, ea, ha⟩ := W.up m hm
      obtain ⟨z, ez⟩ := hk m hm
      have gP : DGet H6 pa (.str m) (some (.str a)) := by have := dget_d eP m; rwa [ea] at this
      refine ⟨_, rfl, _, rfl, _, rfl, pa, .str a, rfl, gP, D, .int (r a), rfl, (by have := dget_d eD a; rwa [fnL_get ha] at this), ?_⟩
      refine ⟨_, rfl, _, rfl, s, .int z, rfl, (by have := dget_r (sH.rd hs) m; rwa [ez] at this), _, _, rfl, rfl, ?_⟩
      refine ⟨_, rfl, _, rfl, _, rfl, pa, .str a, rfl, gP, D, _, rfl, dput_d eD a _ (by rw [fnL, List.length_map, List.length_cons, List.length_map]; omega), ?_⟩
      refine ⟨_, _, rfl, ?_, sH.mut nD, (upd_ne ne1).trans eP, (upd_ne ne2).trans eQ⟩
      rw [upd_same, fnL_put ha, tk, List.foldl_append, hr0, List.foldl_cons, List.foldl_nil]
      unfold resStep
      simp only [ea, ez, Option.getD_some]
    · subst es
      rw [List.take_length] at eD
      refine ⟨_, rfl, D, _, rfl, eD, True.intro, fun o => ?_⟩
      exact k D _ nD (sH.mut nD) ⟨o, upd_same⟩

/-! ### need_feasible -/
def sp_need_feasible (K : PySem.W.Frag) : Sp := fun vs H Q _ => ∃ (p s : Addr) (n : Int) (l : List (Str × Str)) (sl : List (Str × Int)), vs = [.ref p, .int n, .ref s] ∧ ForestAt K H p l ∧ Web l ∧ FDf V.int H s sl ∧ sl.length = l.length ∧ (∀ m ∈ l.map (·.1), ∃ z, aGet sl m = some z ∧ 0 ≤ z) ∧
  (∀ q ∈ ("" : Str) :: l.map (·.1), 0 ≤ residOf l n (fun m => (aGet sl m).getD 0) q) ∧ ∀ H', Sub H H' → Q .non H'
abbrev n_need_feasible : List Str := ["forest", "users", "sizes", "name", "left", "place"]
theorem sc_need_feasible : FnScope n_need_feasible ["forest", "users", "sizes"] (defScope sneed_feasible) := ⟨rfl, rfl, rfl, by decide +kernel, rfl, by decide +kernel, by decide +kernel⟩
theorem ok_need_feasible (T : Txt K mg) : Cal P w K mg base 5 "need_feasible" (sp_need_feasible K) [] := by
  refine cal_of T.f_need_feasible T.g_need_feasible sc_need_feasible (fun vs H Q E h => ?_) (fun _ _ _ _ _ _ us hl => match us, hl with | [_, _, _], _ => rfl) (fun f cdv A outer s0 H vs Q E hr h => ?_)
  · obtain ⟨p, s, n, l, sl, rfl, _⟩ := h
    rfl
  · obtain ⟨p, s, n, l, sl, rfl, hf, W, hs, hsl, hk, hres, k⟩ := h
    have hu := hu_of hr
    have h12 := W.hi
    obtain ⟨os, es⟩ := id hs
    refine ⟨_, (pss_cons (ps_if (PW.pt (pw_or (pt_not (pt_val (pe_callB call_isi rfl T.n_isinstance (by decide +kernel) (pa_cons (pv 2) (pa_cons (pe_ty (n := "dict") rfl T.n_dict (by decide +kernel)) pa_nil))))) (pw_or1 (pt_cmpR op_ne (pe_callB call_lenR rfl T.n_len (by decide +kernel) (pa_cons (pv 2) pa_nil)) (pe_callB c_lenL rfl T.n_len (by decide +kernel) (pa_cons (pr_Forest_flags T hr (by decide) (pv 0)) pa_nil)) (nomark _))))) (pss_one ps_never) pss_nil)
  (pss_cons (ps_if (pt_not (pt_val (pe_callB (cr_all rfl) rfl T.n_all (by decide +kernel) (pa_cons (pe_lc (own := [("name", 3)]) (g := (gName 3)) (tt := tYes) (te := (tDIn (tVar 3) (tVar 2))) rfl sc_need_feasible.nd (pi_list (pr_Forest_flags T hr (by decide) (pv 0))) (blkOk_by (N := n_need_feasible) (sc := defScope sneed_feasible) (by decide +kernel)) (fun _ _ _ _ _ => (pg_name (i := 3) sc_need_feasible.nd rfl (.inl rfl))) (fun _ _ _ _ _ => pts_nil) (fun _ _ _ _ _ => (pe_cmp (pc_din hu (pv 3) (pv 2))))) pa_nil)))) (pss_one ps_never) pss_nil)
  (pss_cons (ps_for PassesOwn.never rfl (pi_list (pr_Forest_flags T hr (by decide) (pv 0))) (pg_name (i := 3) sc_need_feasible.nd rfl (.inl rfl))
  (pss_one (ps_if (pt_not (pt_val (pe_c (ok_is_integer T) hr (by decide) rfl (pa_cons (pe_dget hu (pv 2) (pv 3) (fun _ _ => rfl)) (pa_cons pe_int pa_nil))))) (pss_one ps_never) pss_nil)))
  (pss_cons (ps_set (i := 4) sc_need_feasible.nd rfl (.inl rfl) (pe_c (ok_residents_of T) hr (by decide) rfl (pa_cons (pv 0) (pa_cons (pv 1) (pa_cons (pv 2) pa_nil)))))
  (pss_one (ps_for PassesOwn.never rfl (pi_keys (pv 4)) (pg_name (i := 5) sc_need_feasible.nd rfl (.inl rfl))
  (pss_one (ps_if (pt_cmpR op_lt (pe_dget hu (pv 4) (pv 5) (fun _ _ => rfl)) pe_int (nomark _)) (pss_one ps_never) pss_nil)))))))), ?_⟩
    refine ⟨_, rfl, _, _, _, _, true, rfl, .ty _, .fDict es, kit_ty (by decide +kernel), true, rfl, ?_⟩
    refine rd_ite (fun e => by cases e) (fun _ => ?_)
    refine ⟨_, rfl, s, _, rfl, hs.rd, _, rfl, rd_flags hf fun q1 H1 n1 s1 e1 => ⟨q1, _, rfl, .inl (SqL.of e1), rfl, _, rfl, ?_⟩⟩
    rw [len_kS, hsl, List.length_map, List.length_map, decide_eq_true rfl]
    refine rd_ite (fun e => by cases e) (fun _ => ?_)
    refine ⟨_, rfl, rd_flags (s1.forest hf) fun q2 H2 n2 s2 e2 => ⟨q2, rfl, ⟨_, SqL.of e2⟩, ?_⟩⟩
    have s12 := s1.trans s2
    refine k_lcD (toV := V.str) (walkL (K := K) (a := q2) (data := l.map (·.1)) (f := V.str)) (fun H' s => s.l (SqL.of e2)) (fun _ => true) (fun _ => V.bl true) (by rw [List.length_map]; omega) (fun _ _ _ _ _ => evB_yes) (fun i x H' hx _ s' Q q => ?_) (fun D H3 n3 s3 e3 => ?_)
    · obtain ⟨z, ez, _⟩ := hk x (List.mem_of_getElem? hx)
      exact ⟨_, rfl, _, rfl, s, some (.int z), rfl, (by have := dget_r ((s12.trans s').rd hs.rd) x; rwa [ez] at this), q _ _ (Sub.refl _) rfl⟩
    refine ⟨D, ((l.map (·.1)).filter fun _ => true).map fun _ => true, rfl, SqL.of ?_, true, ?_, ?_⟩
    · rw [e3, List.map_map]
      rfl
    · rw [show (((l.map (·.1)).filter fun _ => true).map fun _ => true).all id = true from List.all_eq_true.mpr fun x hx => by
        obtain ⟨_, _, rfl⟩ := List.mem_map.mp hx
        rfl]
    refine rd_ite (fun e => by cases e) (fun _ => ?_)
    have s13 := s12.trans s3
    refine ⟨_, rfl, rd_flags (s13.forest hf) fun q4 H4 n4 s4 e4 => ⟨q4, rfl, ⟨_, SqL.of e4⟩, ?_⟩⟩
    have s14 := s13.trans s4
    refine for_it (walkL (K := K) (a := q4) (data := l.map (·.1)) (f := V.str)) (fun i σ H' => ∃ o1 o2 o3, σ = [some (.ref p), some (.int n), some (.ref s), o1, o2, o3] ∧ Sub H4 H')
      ⟨_, _, _, rfl, Sub.refl _⟩ (fun i σ H' _ ⟨_, _, _, _, s⟩ => s.l (SqL.of e4)) ?_ (fun σ H5 ⟨o1, o2, o3, hσ, s5⟩ => ?_)
    · rintro i x σ H5 H6 hi ⟨o1, o2, o3, rfl, s5⟩ ⟨ez, ex⟩
      subst ez
      have hxm : x = V.str (l.map (·.1))[i] := by
        rw [ex]
        show V.str ((l.map (·.1)).getD i default) = _
        rw [List.getD_eq_getElem?_getD, List.getElem?_eq_getElem hi]
        rfl
      subst hxm
      have hm : (l.map (·.1))[i] ∈ l.map (·.1) := List.getElem_mem hi
      generalize hm0 : (l.map (·.1))[i] = m at hm
      obtain ⟨z, ez, h0⟩ := hk m hm
      refine ⟨_, rfl, _, rfl, s, .int z, rfl, (by have := dget_r ((s14.trans s5).rd hs.rd) m; rwa [ez] at this), ?_⟩
      refine ⟨.int z, 0, rfl, .inl ⟨z, rfl⟩, fun H7 s7 => ?_⟩
      refine ⟨_, rfl, ?_⟩
      rw [show geV 0 (.int z) = true from decide_eq_true h0]
      exact rd_ite (fun e => by cases e) (fun _ => ⟨_, _, _, rfl, s5.trans s7⟩)
    · subst hσ
      have s15 := s14.trans s5
      refine ⟨_, rfl, _, rfl, _, rfl, p, s, n, l, sl, rfl, s15.forest hf, W, s15.rd hs.rd, fun m hm => let ⟨z, ez, _⟩ := hk m hm; ⟨z, ez⟩, fun q H6 n6 s6 e6 => ?_⟩
      obtain ⟨oq, eq⟩ := e6
      refine ⟨_, rfl, q, oq, rfl, .inl ⟨_, eq, ?_⟩⟩
      refine for_it (walkK (g := V.int) (l := fnL (("" : Str) :: l.map (·.1)) (residOf l n fun m => (aGet sl m).getD 0))) (fun i σ H' => ∃ o1 o3, σ = [some (.ref p), some (.int n), some (.ref s), o1, some (.ref q), o3] ∧ Sub H6 H')
        ⟨_, _, rfl, Sub.refl _⟩ (fun i σ H' _ ⟨_, _, _, s⟩ => s _ _ eq) ?_ (fun σ H7 ⟨o1, o3, hσ, s7⟩ => k H7 ((s15.trans s6).trans s7))
      rintro i x σ H7 H8 hi ⟨o1, o3, rfl, s7⟩ ⟨ez, ex⟩
      subst ez
      have hlt : i < (("" : Str) :: l.map (·.1)).length := by
        have := hi
        rwa [fnL, List.length_map] at this
      have hxm : x = V.str (("" : Str) :: l.map (·.1))[i] := by
        rw [ex]
        show V.str ((fnL (("" : Str) :: l.map (·.1)) (residOf l n fun m => (aGet sl m).getD 0)).getD i default).1 = _
        rw [List.getD_eq_getElem?_getD, fnL, List.getElem?_map, List.getElem?_eq_getElem hlt]
        rfl
      subst hxm
      have hm : (("" : Str) :: l.map (·.1))[i] ∈ ("" : Str) :: l.map (·.1) := List.getElem_mem hlt
      generalize hm0 : (("" : Str) :: l.map (·.1))[i] = m at hm
      refine ⟨_, rfl, _, rfl, q, .int _, rfl, (by have := dget_r (s7.rd (FDf.rd ⟨oq, eq⟩)) m; rwa [fnL_get hm] at this), _, _, rfl, rfl, ?_⟩
      refine ⟨_, rfl, ?_⟩
      rw [decide_eq_false (show ¬ residOf l n (fun m => (aGet sl m).getD 0) m < 0 by have := hres m hm; omega)]
      exact rd_ite (fun e => by cases e) (fun _ => ⟨_, _, rfl, s7⟩)
end
end K31
set_option Elab.async false
set_option linter.all false
set_option maxRecDepth 100000
set_option maxHeartbeats 4000000
namespace K31
open PySem PySem.Spec PyProof.Rows L2 He
open C8 (Cal Met Mak pe_c pe_mk pe_mt pe_mt0 pe_gc)
section
variable {P : Program} {w : World} {K : PySem.W.Frag} {mg : Str → Option Value} {base : Heap}
theorem gPair {i j : Nat} {T : Addr} {x y : V} {σ : L2.St} {H : Hp} {Q : L2.St → Hp → Prop} (e : H T = some (.tup [x, y])) (q : Q ((σ.set i (some x)).set j (some y)) H) : gTup K 2 (gCons (gName i) (gCons (gName j) gNil)) (.ref T) σ H Q :=
  ⟨T, _, rfl, SqT.of e, rfl, _, _, rfl, _, _, rfl, rfl, q⟩
theorem walkE {a : Addr} {β : Type} {data : List β} {f : β → V} : Walk (Ite K a) data.length (fun H => SqL K H a (data.map f)) (YPair (fun i => some (.int (i : Nat))) (fun i => (data.map f)[i]?)) := by
  have w := walk_enum (K := K) (a := a) (xs := data.map f)
  rw [List.length_map] at w
  exact w
theorem walkET {a : Addr} {β : Type} {data : List β} {f : β → V} : Walk (ItE K a) data.length (fun H => SqT K H a (data.map f)) (YPair (fun i => some (.int (i : Nat))) (fun i => (data.map f)[i]?)) := by
  have w := walk_enumT (K := K) (a := a) (xs := data.map f)
  rw [List.length_map] at w
  exact w
theorem get_map {β : Type} {data : List β} {f : β → V} {i : Nat} {v : V} (hi : i < data.length) (h : (data.map f)[i]? = some v) : v = f data[i] := by
  rw [List.getElem?_map, List.getElem?_eq_getElem hi] at h
  exact (Option.some.inj h).symm
theorem get_D {β : Type} [Inhabited β] {data : List β} {f : β → V} {i : Nat} (hi : i < data.length) : f (data.getD i default) = f data[i] := by
  rw [List.getD_eq_getElem?_getD, List.getElem?_eq_getElem hi]; rfl
theorem take_get {β : Type} {data : List β} {i : Nat} (hi : i < data.length) : data.take (i + 1) = data.take i ++ [data[i]] := by
  rw [List.take_add_one, List.getElem?_eq_getElem hi]; rfl

/-! ### Assignment -/
def AsgAt (K : PySem.W.Frag) (H : Hp) (p f : Addr) (pls : List Str) : Prop := ∃ dx a, H p = some (.ins (ga K "Assignment") dx [("own_forest", .ref f), ("own_places", .ref a)]) ∧ H a = some (.lst (pls.map V.str))
theorem Sub.asg {H H' : Hp} {p f : Addr} {l : List Str} (s : Sub H H') (h : AsgAt K H p f l) : AsgAt K H' p f l := let ⟨dx, d, e, f⟩ := h; ⟨dx, d, s _ _ e, s _ _ f⟩
def sp_Assignment_init (K : PySem.W.Frag) : Sp := fun vs H Q _ => ∃ (p f a : Addr) (l : List (Str × Str)) (pls : List Str), vs = [.ref p, .ref f, .ref a] ∧ (∃ dx, H p = some (.ins (ga K "Assignment") dx [])) ∧ ForestAt K H f l ∧ H a = some (.lst (pls.map V.str)) ∧ 1 ≤ pls.length ∧ pls.length ≤ 60 ∧ (∀ x ∈ pls, x = "" ∨ x ∈ l.map (·.1)) ∧
  ∀ H', (∀ b o, b ≠ p → H b = some o → H' b = some o) → AsgAt K H' p f pls → Q .non H'
abbrev n_Assignment_init : List Str := ["self", "forest", "places", "user", "place"]
theorem sc_Assignment_init : FnScope n_Assignment_init ["self", "forest", "places"] (defScope mAssignment_init) := ⟨rfl, rfl, rfl, by decide +kernel, rfl, by decide +kernel, by decide +kernel⟩
theorem mk_Assignment (T : Txt K mg) : Mak P w K mg base 1 "Assignment" (ga K "Assignment") (sp_Assignment_init K) [] := by
  refine mak_of T.f_Assignment_init T.k_Assignment T.g_Assignment sc_Assignment_init (fun vs H Q E h => ?_) (fun _ _ _ _ _ _ us hl => match us, hl with | [_, _, _], _ => rfl) (fun f cdv A outer s H vs Q E hr h => ?_)
  · obtain ⟨p, f, a, l, pls, rfl, _⟩ := h
    rfl
  · obtain ⟨p, f, a, l, pls, rfl, ⟨dx, hp⟩, hf, ha, h1, h60, hpl, k⟩ := h
    have hu := hu_of hr
    refine ⟨_, (pss_cons (ps_if (PW.pt (pw_or (pt_not (pt_val (pe_callB call_isiT rfl T.n_isinstance (by decide +kernel) (pa_cons (pv 2) (pa_cons (pe_tup (pa_cons (pe_ty (n := "list") rfl T.n_list (by decide +kernel)) (pa_cons (pe_ty (n := "tuple") rfl T.n_tuple (by decide +kernel)) pa_nil))) pa_nil))))) (pw_or1 (pt_not (pt_chain op_le op_le pe_int (pe_callB c_lenL rfl T.n_len (by decide +kernel) (pa_cons (pv 2) pa_nil)) (ClX.pe_cval (pe_cls rfl T.g_Assignment))))))) (pss_one ps_never) pss_nil)
  (pss_cons (ps_for PassesOwn.never rfl (pi_enum rfl T.n_enumerate (pa_cons (pv 2) pa_nil)) (pg_tup (n := 2) rfl (pgs_cons (pg_name (i := 3) sc_Assignment_init.nd rfl (.inl rfl)) (pgs_cons (pg_name (i := 4) sc_Assignment_init.nd rfl (.inl rfl)) pgs_nil)))
  (pss_one (ps_if (PW.pt (pw_or (pt_not (pt_val (pe_callB call_isi rfl T.n_isinstance (by decide +kernel) (pa_cons (pv 4) (pa_cons (pe_ty (n := "str") rfl T.n_str (by decide +kernel)) pa_nil))))) (pw_or1 (PW.pt (pw_and (pt_cmpR op_ne (pv 4) (ClX.pe_cval (pe_cls rfl T.g_Forest)) (nomark _)) (pw_and1 (pt_cmp (pc_dnotin hu (pv 4) (pe_fld (pv 1) rfl))))))))) (pss_one ps_never) pss_nil)))
  (pss_cons (ps_fld (pv 0) (pv 1) rfl)
  (pss_one (ps_fld (pv 0) (pe_callTy c_listL rfl T.n_list (by decide +kernel) (pa_cons (pv 2) pa_nil)) rfl))))), ?_⟩
    refine ⟨_, rfl, sz (by simp), fun q n1 => ?_⟩
    have s1 : Sub H (upd H q (.tup [.ty "list", .ty "tuple"])) := Sub.new n1
    refine ⟨_, q, _, .type "list", [.type "list", .type "tuple"], true, rfl, upd_same, .cons (.ty _) (.cons (.ty _) .nil), .base (.lst (s1 _ _ ha)), kitAny_cons (kit_ty (r := true) (by decide +kernel)) (fun e => by cases e) (fun _ => rfl), true, rfl, ?_⟩
    refine rd_ite (fun e => by cases e) (fun _ => ?_)
    generalize hH1 : upd H q (.tup [.ty "list", .ty "tuple"]) = H1 at s1 ⊢
    refine ⟨_, rfl, a, _, rfl, .inl (SqL.of (s1 _ _ ha)), _, _, rfl, rfl, _, rfl, ?_⟩
    rw [List.length_map, decide_eq_true (show (1 : Int) ≤ (pls.length : Int) by omega)]
    refine iteT (rd_cval T.v_Assignment_MOST ⟨_, _, rfl, rfl, _, rfl, ?_⟩)
    rw [decide_eq_true (show (pls.length : Int) ≤ 60 by omega)]
    refine rd_ite (fun e => by cases e) (fun _ => ?_)
    refine ⟨_, rfl, a, _, rfl, SqL.of (s1 _ _ ha), ?_⟩
    refine for_it (walkE (K := K) (a := a) (data := pls) (f := V.str)) (fun i σ H' => ∃ o1 o2, σ = [some (.ref p), some (.ref f), some (.ref a), o1, o2] ∧ Sub H1 H') ⟨_, _, rfl, Sub.refl _⟩ (fun i σ H' _ ⟨_, _, _, s⟩ => s.l (SqL.of (s1 _ _ ha))) ?_ (fun σ H2 ⟨o1, o2, hσ, s2⟩ => ?_)
    · rintro i x σ H2 H3 hi ⟨o1, o2, rfl, s2⟩ ⟨t, u, v, rfl, hn, rfl, eu, ev⟩
      cases eu
      have := get_map hi ev
      subst this
      have hm := hpl _ (List.getElem_mem hi)
      generalize pls[i] = x at hm ⊢
      have s3 : Sub H1 (upd H2 t (.tup [.int (i : Nat), .str x])) := s2.trans (Sub.new hn)
      refine gPair upd_same ?_
      refine ⟨_, rfl, _, _, _, _, true, rfl, .ty _, .base (.str x), kit_ty (by decide +kernel), true, rfl, ?_⟩
      refine rd_ite (fun e => by cases e) (fun _ => ?_)
      refine ⟨_, rfl, rd_cval T.v_Forest_ROOT ⟨rfl, _, rfl, ?_⟩⟩
      refine rd_ite (fun hx => ?_) (fun _ => ⟨_, _, rfl, s3⟩)
      obtain ⟨dx2, d, e1, e2⟩ := (s1.trans s3).forest hf
      have hx2 : x ∈ l.map (·.1) := hm.resolve_left fun z => by rw [z] at hx; cases hx
      obtain ⟨z, ez⟩ := aGet_some hx2
      refine ⟨_, rfl, _, rfl, f, _, dx2, _, .ref d, rfl, e1, T.c_Forest, T.a_Forest_above, rfl, d, some (.str z), rfl, (by have := dget_r e2.rd x; rwa [ez] at this), _, rfl, ?_⟩
      exact rd_ite (fun e => by cases e) (fun _ => ⟨_, _, rfl, s3⟩)
    · subst hσ
      have s12 := s1.trans s2
      have hp2 := s12 _ _ hp
      refine ⟨_, rfl, _, rfl, p, _, dx, [], rfl, hp2, T.c_Assignment, T.a_Assignment_own_forest, by show 0 < 1000; decide, ?_⟩
      have npa : a ≠ p := fun z => by rw [z, hp] at ha; cases ha
      refine ⟨_, rfl, a, _, rfl, .inl (SqL.of ((upd_ne npa).trans (s12 _ _ ha))), fun r n3 => ?_⟩
      have nrp : r ≠ p := fun z => by rw [z, upd_same] at n3; cases n3
      have n3' : H2 r = none := (upd_ne nrp).symm.trans n3
      refine ⟨_, rfl, p, _, dx, _, rfl, (upd_ne nrp.symm).trans upd_same, T.c_Assignment, T.a_Assignment_own_places, by show 1 < 1000; decide, ?_⟩
      refine k _ (fun b o hb e => ?_) ⟨dx, r, upd_same, (upd_ne nrp).trans upd_same⟩
      rw [upd_ne hb, upd_ne (ne_of_none (s12 _ _ e) n3'), upd_ne hb]
      exact s12 _ _ e
/-- Assignment(forest, places) -/
theorem rd_Assignment {H : Hp} {f a : Addr} {l : List (Str × Str)} {pls : List Str} {Q : Addr → Hp → Prop} {E : XK} (hf : ForestAt K H f l) (ha : H a = some (.lst (pls.map V.str))) (h1 : 1 ≤ pls.length) (h60 : pls.length ≤ 60) (hpl : ∀ x ∈ pls, x = "" ∨ x ∈ l.map (·.1))
    (k : ∀ (x : Addr) (H' : Hp), H x = none → Sub H H' → AsgAt K H' x f pls → Q x H') :
    ∀ x dx, H x = none → H dx = none → dx ≠ x → sp_Assignment_init K [.ref x, .ref f, .ref a] (upd (upd H dx (.own x)) x (.ins (ga K "Assignment") dx [])) (fun v H2 => v = .non ∧ Q x H2) E := fun x dx nx nd ne => by
  have s1 : Sub H (upd (upd H dx (.own x)) x (.ins (ga K "Assignment") dx [])) := (Sub.new nd).mut nx
  exact ⟨x, f, a, l, pls, rfl, ⟨dx, upd_same⟩, s1.forest hf, s1 _ _ ha, h1, h60, hpl, fun H' h4 h5 => ⟨rfl, k x H' nx (fun b o e => h4 b o (ne_of_none e nx) (s1 b o e)) h5⟩⟩
def sp_Assignment_forest (K : PySem.W.Frag) : Sp := fun vs H Q _ => ∃ (p f : Addr) (l : List Str), vs = [.ref p] ∧ AsgAt K H p f l ∧ Q (.ref f) H
abbrev n_Assignment_forest : List Str := ["self"]
theorem sc_Assignment_forest : FnScope n_Assignment_forest ["self"] (defScope mAssignment_forest) := ⟨rfl, rfl, rfl, by decide +kernel, rfl, by decide +kernel, by decide +kernel⟩
theorem ok_Assignment_forest (T : Txt K mg) : PrpOk P w K mg base 1 (ga K "Assignment") "forest" (sp_Assignment_forest K) := by
  refine pr_of T.f_Assignment_forest T.c_Assignment T.p_Assignment_forest sc_Assignment_forest (fun vs H Q E h => ?_) (fun _ _ _ _ _ _ us hl => match us, hl with | [_], _ => rfl) (fun f cdv A outer s H vs Q E hr h => ?_)
  · obtain ⟨p, f, l, rfl, _⟩ := h
    rfl
  · obtain ⟨p, f, l, rfl, ⟨dx, d, hp, hd⟩, k⟩ := h
    refine ⟨_, (pss_one (ps_ret (pe_fld (pv 0) rfl))), ?_⟩
    exact ⟨_, rfl, p, _, dx, _, _, rfl, hp, T.c_Assignment, T.a_Assignment_own_forest, rfl, k⟩
def sp_Assignment_places (K : PySem.W.Frag) : Sp := fun vs H Q _ => ∃ (p f : Addr) (l : List Str), vs = [.ref p] ∧ AsgAt K H p f l ∧ ∀ (q : Addr) (H' : Hp), H q = none → Sub H H' → H' q = some (.lst (l.map V.str)) → Q (.ref q) H'
abbrev n_Assignment_places : List Str := ["self"]
theorem sc_Assignment_places : FnScope n_Assignment_places ["self"] (defScope mAssignment_places) := ⟨rfl, rfl, rfl, by decide +kernel, rfl, by decide +kernel, by decide +kernel⟩
theorem ok_Assignment_places (T : Txt K mg) : PrpOk P w K mg base 1 (ga K "Assignment") "places" (sp_Assignment_places K) := by
  refine pr_of T.f_Assignment_places T.c_Assignment T.p_Assignment_places sc_Assignment_places (fun vs H Q E h => ?_) (fun _ _ _ _ _ _ us hl => match us, hl with | [_], _ => rfl) (fun f cdv A outer s H vs Q E hr h => ?_)
  · obtain ⟨p, f, l, rfl, _⟩ := h
    rfl
  · obtain ⟨p, f, l, rfl, ⟨dx, d, hp, hd⟩, k⟩ := h
    refine ⟨_, (pss_one (ps_ret (pe_callTy c_listL rfl T.n_list (by decide +kernel) (pa_cons (pe_fld (pv 0) rfl) pa_nil)))), ?_⟩
    exact ⟨_, rfl, p, _, dx, _, _, rfl, hp, T.c_Assignment, T.a_Assignment_own_places, rfl, d, _, rfl, .inl (SqL.of hd), fun q n => k q _ n (Sub.new n) upd_same⟩
def sp_Assignment_total (K : PySem.W.Frag) : Sp := fun vs H Q _ => ∃ (p f : Addr) (l : List Str), vs = [.ref p] ∧ AsgAt K H p f l ∧ Q (.int l.length) H
abbrev n_Assignment_total : List Str := ["self"]
theorem sc_Assignment_total : FnScope n_Assignment_total ["self"] (defScope mAssignment_total) := ⟨rfl, rfl, rfl, by decide +kernel, rfl, by decide +kernel, by decide +kernel⟩
theorem ok_Assignment_total (T : Txt K mg) : PrpOk P w K mg base 1 (ga K "Assignment") "total" (sp_Assignment_total K) := by
  refine pr_of T.f_Assignment_total T.c_Assignment T.p_Assignment_total sc_Assignment_total (fun vs H Q E h => ?_) (fun _ _ _ _ _ _ us hl => match us, hl with | [_], _ => rfl) (fun f cdv A outer s H vs Q E hr h => ?_)
  · obtain ⟨p, f, l, rfl, _⟩ := h
    rfl
  · obtain ⟨p, f, l, rfl, ⟨dx, d, hp, hd⟩, k⟩ := h
    refine ⟨_, (pss_one (ps_ret (pe_callB c_lenL rfl T.n_len (by decide +kernel) (pa_cons (pe_fld (pv 0) rfl) pa_nil)))), ?_⟩
    refine ⟨_, rfl, p, _, dx, _, _, rfl, hp, T.c_Assignment, T.a_Assignment_own_places, rfl, d, _, rfl, .inl (SqL.of hd), ?_⟩
    rw [List.length_map]
    exact k
theorem pr_Assignment_forest {X : Cx} {j : Nat} {e : Expr} {ta : TE} {pos : Pos} (T : Txt X.K X.mg) (hr : Room j X.A) (hk : 2 ≤ j) (he : PE X e ta) (hab : attributeBase e "forest" X.env (eval e X.env) = eval e X.env := by rfl) : PE X (.Attribute e "forest" pos) (tProp (ga X.K "Assignment") (sp_Assignment_forest X.K) [] E0 ta) := pe_pr (ok_Assignment_forest T) hr hk he hab
theorem pr_Assignment_places {X : Cx} {j : Nat} {e : Expr} {ta : TE} {pos : Pos} (T : Txt X.K X.mg) (hr : Room j X.A) (hk : 2 ≤ j) (he : PE X e ta) (hab : attributeBase e "places" X.env (eval e X.env) = eval e X.env := by rfl) : PE X (.Attribute e "places" pos) (tProp (ga X.K "Assignment") (sp_Assignment_places X.K) [] E0 ta) := pe_pr (ok_Assignment_places T) hr hk he hab
theorem pr_Assignment_total {X : Cx} {j : Nat} {e : Expr} {ta : TE} {pos : Pos} (T : Txt X.K X.mg) (hr : Room j X.A) (hk : 2 ≤ j) (he : PE X e ta) (hab : attributeBase e "total" X.env (eval e X.env) = eval e X.env := by rfl) : PE X (.Attribute e "total" pos) (tProp (ga X.K "Assignment") (sp_Assignment_total X.K) [] E0 ta) := pe_pr (ok_Assignment_total T) hr hk he hab
theorem rd_forest {H : Hp} {p f : Addr} {l : List Str} {Q : VK} {E : XK} (h : AsgAt K H p f l) (k : Q (.ref f) H) : ∃ a dx fs, V.ref p = .ref a ∧ H a = some (.ins (ga K "Assignment") dx fs) ∧ sp_Assignment_forest K [.ref a] H Q E := by
  obtain ⟨dx, d, hp, hd⟩ := id h
  exact ⟨p, dx, _, rfl, hp, p, f, l, rfl, h, k⟩
theorem rd_places {H : Hp} {p f : Addr} {l : List Str} {Q : VK} {E : XK} (h : AsgAt K H p f l) (k : ∀ (q : Addr) (H' : Hp), H q = none → Sub H H' → H' q = some (.lst (l.map V.str)) → Q (.ref q) H') : ∃ a dx fs, V.ref p = .ref a ∧ H a = some (.ins (ga K "Assignment") dx fs) ∧ sp_Assignment_places K [.ref a] H Q E := by
  obtain ⟨dx, d, hp, hd⟩ := id h
  exact ⟨p, dx, _, rfl, hp, p, f, l, rfl, h, k⟩
theorem rd_total {H : Hp} {p f : Addr} {l : List Str} {Q : VK} {E : XK} (h : AsgAt K H p f l) (k : Q (.int l.length) H) : ∃ a dx fs, V.ref p = .ref a ∧ H a = some (.ins (ga K "Assignment") dx fs) ∧ sp_Assignment_total K [.ref a] H Q E := by
  obtain ⟨dx, d, hp, hd⟩ := id h
  exact ⟨p, dx, _, rfl, hp, p, f, l, rfl, h, k⟩

/-! ### pins -/
inductive Told where
  | must (u : Nat) (x : Str)
  | never (u : Nat) (x : Str)
  | stay (u : Nat)
deriving DecidableEq
instance : Inhabited Told := ⟨.stay 0⟩
def Told.who : Told → Nat
  | .must u _ => u
  | .never u _ => u
  | .stay u => u
def PinAt (K : PySem.W.Frag) (H : Hp) (a : Addr) : Told → Prop
  | .must u x => ∃ dx, H a = some (.ins (ga K "Must") dx [("who", .int u), ("wanted_flag", .str x)])
  | .never u x => ∃ dx, H a = some (.ins (ga K "Never") dx [("who", .int u), ("barred_flag", .str x)])
  | .stay u => ∃ dx, H a = some (.ins (ga K "Stay") dx [("who", .int u)])
theorem Sub.pin {H H' : Hp} {a : Addr} {t : Told} (s : Sub H H') (h : PinAt K H a t) : PinAt K H' a t := by
  cases t with
  | must u x => exact let ⟨dx, e⟩ := h; ⟨dx, s _ _ e⟩
  | never u x => exact let ⟨dx, e⟩ := h; ⟨dx, s _ _ e⟩
  | stay u => exact let ⟨dx, e⟩ := h; ⟨dx, s _ _ e⟩
abbrev Pins := List (Addr × Told)
structure PinsT (K : PySem.W.Frag) (H : Hp) (q : Addr) (ps : Pins) : Prop where
  sq : SqT K H q (ps.map fun e => V.ref e.1)
  each : ∀ e ∈ ps, PinAt K H e.1 e.2
theorem Sub.pins {H H' : Hp} {a : Addr} {t : Pins} (s : Sub H H') (h : PinsT K H a t) : PinsT K H' a t := ⟨s.t h.sq, fun e he => s.pin (h.each e he)⟩
theorem pin_who (T : Txt K mg) {H : Hp} {a : Addr} {t : Told} (h : PinAt K H a t) : ∃ C dx fs, H a = some (.ins C dx fs) ∧ Cls K C ∧ NoAttr K C "who" ∧ fs.lookup ("who" : Str) = some (.int t.who) := by
  cases t with
  | must u x => obtain ⟨dx, e⟩ := h; exact ⟨_, dx, _, e, T.c_Must, T.a_Must_who, rfl⟩
  | never u x => obtain ⟨dx, e⟩ := h; exact ⟨_, dx, _, e, T.c_Never, T.a_Never_who, rfl⟩
  | stay u => obtain ⟨dx, e⟩ := h; exact ⟨_, dx, _, e, T.c_Stay, T.a_Stay_who, rfl⟩
theorem tyIns {H : Hp} {a C dx : Addr} {fs : List (Str × V)} (e : H a = some (.ins C dx fs)) (i : InsD K C) : TyX K H (.ref a) (.ref C) := .base (.ins e i.cl i.ha i.hn i.htk i.hm)
theorem isi_pin (T : Txt K mg) {H : Hp} {a : Addr} {t : Told} (h : PinAt K H a t) : ∃ C, TyX K H (.ref a) (.ref C) ∧ PySem.W.kitOne K (.ref C) (.ref (ga K "Pin")) = some true := by
  cases t with
  | must u x => obtain ⟨dx, e⟩ := h; exact ⟨_, tyIns e T.i_Must, T.isP_Must⟩
  | never u x => obtain ⟨dx, e⟩ := h; exact ⟨_, tyIns e T.i_Never, T.isP_Never⟩
  | stay u => obtain ⟨dx, e⟩ := h; exact ⟨_, tyIns e T.i_Stay, T.isP_Stay⟩
def sp_need_pins (K : PySem.W.Frag) : Sp := fun vs H Q _ => ∃ (q : Addr) (n : Nat) (ps : Pins), vs = [.ref q, .int (n : Int)] ∧ PinsT K H q ps ∧ (∀ e ∈ ps, e.2.who < n) ∧ ∀ H', Sub H H' → Q .non H'
abbrev n_need_pins : List Str := ["pins", "total", "index", "pin"]
theorem sc_need_pins : FnScope n_need_pins ["pins", "total"] (defScope sneed_pins) := ⟨rfl, rfl, rfl, by decide +kernel, rfl, by decide +kernel, by decide +kernel⟩
theorem ok_need_pins (T : Txt K mg) : Cal P w K mg base 2 "need_pins" (sp_need_pins K) [] := by
  refine cal_of T.f_need_pins T.g_need_pins sc_need_pins (fun vs H Q E h => ?_) (fun _ _ _ _ _ _ us hl => match us, hl with | [_, _], _ => rfl) (fun f cdv A outer s H vs Q E hr h => ?_)
  · obtain ⟨p, s, n, rfl, _⟩ := h
    rfl
  · obtain ⟨q, n, ps, rfl, hp, hn, k⟩ := h
    refine ⟨_, (pss_one (ps_for PassesOwn.never rfl (pi_enumT rfl T.n_enumerate (pa_cons (pv 0) pa_nil)) (pg_tup (n := 2) rfl (pgs_cons (pg_name (i := 2) sc_need_pins.nd rfl (.inl rfl)) (pgs_cons (pg_name (i := 3) sc_need_pins.nd rfl (.inl rfl)) pgs_nil)))
  (pss_cons (ps_if (pt_not (pt_val (pe_callB call_isi rfl T.n_isinstance (by decide +kernel) (pa_cons (pv 3) (pa_cons (pe_cls rfl T.g_Pin) pa_nil))))) (pss_one ps_never) pss_nil)
  (pss_one (ps_if (PW.pt (pw_or (pt_not (pt_val (pe_c (ok_is_integer T) hr (by decide) rfl (pa_cons (pe_fld (pv 3) rfl) (pa_cons pe_int pa_nil))))) (pw_or1 (pt_cmpR op_ge (pe_fld (pv 3) rfl) (pv 1) (nomark _))))) (pss_one ps_never) pss_nil))))), ?_⟩
    refine ⟨_, rfl, q, _, rfl, hp.sq, ?_⟩
    refine for_it (walkET (K := K) (a := q) (data := ps) (f := fun e => V.ref e.1)) (fun i σ H' => ∃ o1 o2, σ = [some (.ref q), some (.int n), o1, o2] ∧ Sub H H') ⟨_, _, rfl, Sub.refl _⟩ (fun i σ H' _ ⟨_, _, _, s⟩ => s.t hp.sq) ?_ (fun σ H2 ⟨o1, o2, _, s2⟩ => k H2 s2)
    rintro i x σ H2 H3 hi ⟨o1, o2, rfl, s2⟩ ⟨t, u, v, rfl, hn1, rfl, eu, ev⟩
    cases eu
    have := get_map hi ev
    subst this
    have hm := List.getElem_mem hi
    generalize ps[i] = e at hm ⊢
    have s3 : Sub H (upd H2 t (.tup [.int (i : Nat), .ref e.1])) := s2.trans (Sub.new hn1)
    generalize hH3 : upd H2 t (.tup [.int (i : Nat), .ref e.1]) = H3 at s3 ⊢
    refine gPair (by rw [← hH3]; exact upd_same) ?_
    obtain ⟨C, ty, ki⟩ := isi_pin T (s3.pin (hp.each e hm))
    refine ⟨_, rfl, _, _, _, _, true, rfl, .own _, ty, ki, true, rfl, ?_⟩
    refine rd_ite (fun e => by cases e) (fun _ => ?_)
    obtain ⟨C1, dx1, fs1, p1, p2, p3, p4⟩ := pin_who T (s3.pin (hp.each e hm))
    refine ⟨_, rfl, _, C1, dx1, fs1, _, rfl, p1, p2, p3, p4, ?_⟩
    refine ⟨.int (e.2.who : Int), 0, rfl, .inl ⟨_, rfl⟩, fun H4 s4 => ?_⟩
    refine ⟨_, rfl, ?_⟩
    rw [show geV 0 (.int (e.2.who : Int)) = true from decide_eq_true (show (0 : Int) ≤ (e.2.who : Int) by omega)]
    refine rd_ite (fun e => by cases e) (fun _ => ?_)
    have s5 := s3.trans s4
    refine ⟨_, rfl, _, C1, dx1, fs1, _, rfl, s4 _ _ p1, p2, p3, p4, ?_⟩
    refine ⟨_, rfl, _, _, rfl, rfl, _, rfl, ?_⟩
    rw [decide_eq_false (show ¬ ((n : Int) ≤ (e.2.who : Int)) by have := hn e hm; omega)]
    exact rd_ite (fun e => by cases e) (fun _ => ⟨_, _, rfl, s5⟩)
end
end K31
set_option Elab.async false
set_option linter.all false
set_option maxRecDepth 100000
set_option maxHeartbeats 4000000
/-! sorted of a tuple of texts; lists of texts that are compared. -/
namespace K31
open PySem PySem.Spec PyProof.Rows L2 He
section
variable {X : Cx}
def rSortedST (K : PySem.W.Frag) : List V → Hp → VK → Prop := fun vs H Q => ∃ (a : Addr) (xs : List Str), vs = [V.ref a] ∧ SqT K H a (xs.map V.str) ∧ xs.length < 64 ∧
  ∀ (ys : List Str) (p : Addr), ys.Perm xs → sortedS ys = true → H p = none → Q (.ref p) (upd H p (.lst (ys.map V.str)))
theorem cr_sortedST : CallR X (.builtin "sorted") (rSortedST X.K) := by
  intro pins s σ H vs us Q I r h
  obtain ⟨a, ks, rfl, hs, h64, q⟩ := h
  obtain ⟨its, rv, ht, _⟩ := I.tuple hs
  obtain ⟨o, ho, hc, n, hd⟩ := ht
  rw [Vals.ref1 r]
  have hal : its.length = ks.length := by
    have := rv.length
    rw [List.length_map] at this
    exact this.symm
  refine Calls.call_function_entry PyProof.Rows.kind_sorted PyProof.Rows.plain_sorted PyProof.Rows.entry_sorted (PyProof.Rows.args_sorted1 _) ?_
  unfold Builtin.«sorted»
  refine wpAny_bind (m := checkCount "sorted" 1 1 _) (wpAny_pure ?_)
  refine wpAny_bind (wpAny_collect_seq a (.inr rfl) ho hc hd (fun h' hk => ?_) (by rw [List.size_toArray, hal, sizeLine_eq]; omega))
  have hS : StrsAre its.toArray.toList ks := by
    rw [List.toList_toArray]
    exact rv.strs
  have hal : its.toArray.toList.length = ks.length := by rw [List.toList_toArray]; exact hal
  generalize its.toArray.toList = acc at hS hal ⊢
  have I1 : Inv X pins σ H { s with heap := h' } := I.kept (t' := s.toks) hk
  refine wpAny_bind (wpAny_newList ?_ (by rw [hal, sizeLine_eq]; omega))
  have hoL : (h'.push (seqObj "list" acc.toArray 0)).get? h'.objs.size = some (seqObj "list" acc.toArray 0) := Heap.get?_push_size _ rfl
  show wpAny _ _ _ _ _ { s with heap := h'.push (seqObj "list" acc.toArray 0) }
  refine wpAny_bind (wpAny_holding (wpAny_call_entry PyProof.Rows.slot_list_sort ⟨_, hoL, rfl⟩ PyProof.Rows.entry_list_sort
    (list_sort_treeK strKind_oneLt (s := { s with heap := h'.push (seqObj "list" acc.toArray 0) }) hoL hS.keysOf (fun v₁ v₂ rest e => keyKind_strs (by rw [← e]; exact hS)) (by rw [hal]; exact h64) fun st' hp hs => ⟨_, rfl, ?_⟩)
    (PyProof.Rows.args_list_sort _)))
  obtain ⟨ys, g1, g2, g3⟩ := sorted_out_str hS hp hs
  obtain ⟨e', he'⟩ := PyProof.Rows.sortedHeap_at (vs := acc) (out := (arrOf st').map (·.2)) hoL
  have hlen : (ys.map V.str).length ≤ sizeLine := by
    rw [List.length_map, g2.length_eq]
    exact Nat.le_trans (Nat.le_of_lt h64) (by decide)
  refine wpAny_pure ⟨_, rfl, .ref h'.objs.size, upd H h'.objs.size (.lst (ys.map V.str)), I1.laid (t' := s.toks) (fun b u e => ?_) (Nat.le_refl _)
    (show ObjOk X.prog X.w _ _ _ (.lst (ys.map V.str)) from ⟨hlen, ((arrOf st').map (·.2)).toList, e', vals_of_strs g1, by rw [Array.toArray_toList]; exact he'⟩), rfl, q ys _ g2 g3 (I1.hok.fresh (Nat.le_refl _))⟩
  have hb : b < h'.objs.size := Heap.lt_size e
  rw [PyProof.Rows.sortedHeap_old (Nat.ne_of_lt hb) (by rw [size_push']; exact Nat.lt_succ_of_lt hb)]
  exact Heap.get?_push_of_some _ e
theorem dp_strs {K : PySem.W.Frag} {H : Hp} : ∀ xs : List Str, DpAll K H (xs.map V.str) (xs.map PyData.str)
  | [] => .nil
  | x :: xs => .cons (.str x) (dp_strs xs)
theorem lay_strs : ∀ xs : List Str, (∀ x ∈ xs, PyData.strOk x = true) → PyData.canLayAll0 (xs.map PyData.str) = true
  | [], _ => rfl
  | x :: xs, h => by
    show (PyData.strOk x && PyData.canLayAll0 (xs.map PyData.str)) = true
    rw [h x (List.mem_cons_self ..), lay_strs xs fun y hy => h y (List.mem_cons_of_mem _ hy)]
    rfl
theorem depth_strs : ∀ xs : List Str, PyData.depthAll (xs.map PyData.str) = 0
  | [] => by simp [PyData.depthAll]
  | x :: xs => by simp [PyData.depthAll, PyData.depth, depth_strs xs]
theorem shaped_strs {xs : List Str} (h : ∀ x ∈ xs, PyData.strOk x = true) : SeqAt.shaped (.list (xs.map PyData.str)) = true := by
  show (PyData.canLayAll0 (xs.map PyData.str) && decide (PyData.depth (.list (xs.map PyData.str)) ≤ 64)) = true
  rw [lay_strs xs h]
  simp [PyData.depth, depth_strs xs]
theorem eqv_strs : ∀ xs ys : List Str, PyData.eqvAll (xs.map PyData.str) (ys.map PyData.str) = decide (xs = ys)
  | [], [] => rfl
  | [], _ :: _ => rfl
  | _ :: _, [] => rfl
  | x :: xs, y :: ys => by
    show (x == y && PyData.eqvAll (xs.map PyData.str) (ys.map PyData.str)) = _
    rw [eqv_strs xs ys]
    by_cases h : x = y <;> by_cases g : xs = ys <;> simp [h, g]
theorem eqD_strs {K : PySem.W.Frag} {H : Hp} {a b : Addr} {xs ys : List Str} {Q : VK} (ha : SqL K H a (xs.map V.str)) (hb : SqL K H b (ys.map V.str)) (hx : ∀ x ∈ xs, PyData.strOk x = true) (hy : ∀ x ∈ ys, PyData.strOk x = true) (q : Q (.bl (decide (xs = ys))) H) : rEqD K (.ref a) (.ref b) H Q :=
  ⟨_, _, .lst ha (dp_strs xs), .lst hb (dp_strs ys), shaped_strs hx, shaped_strs hy, by
    show Q (.bl (PyData.eqvAll (xs.map PyData.str) (ys.map PyData.str))) H
    rw [eqv_strs]; exact q⟩
end
end K31
set_option Elab.async false
set_option linter.all false
set_option maxRecDepth 100000
set_option maxHeartbeats 4000000
namespace K31
open PySem PySem.Spec PyProof.Rows L2 He
open C8 (Cal Met Mak pe_c pe_mk pe_mt pe_mt0 pe_gc)
/-! ### what is told of a pin -/
noncomputable def allowsB (known here there : List Str) : Told → Bool
  | .must _ x => decide (x ∈ there)
  | .never _ x => !decide (x ∈ there)
  | .stay _ => decide (srt (here.filter fun x => decide (x ∈ known)) = srt there)
def Told.kind : Told → Nat
  | .must _ _ => 0
  | .never _ _ => 1
  | .stay _ => 2
theorem NameOk.str {x : Str} (h : NameOk x) : PyData.strOk x = true := by
  unfold PyData.strOk
  rw [← Array.all_toList]
  refine List.all_eq_true.mpr fun c hc => decide_eq_true ?_
  have hb := h.abc c hc
  have : ∀ c ∈ K31.abc.cps.toList, c < 0x110000 := by decide
  exact this c hb
section
variable {P : Program} {w : World} {K : PySem.W.Frag} {mg : Str → Option Value} {base : Heap}
/-- a method that three classes have -/
def tOr3 (a b c : TE) : TE := fun σ H Q => a σ H Q ∨ b σ H Q ∨ c σ H Q
theorem pe_or3 {X : Cx} {e : Expr} {a b c : TE} (ha : PE X e a) (hb : PE X e b) (hc : PE X e c) : PE X e (tOr3 a b c) :=
  ⟨fun pins s σ H Q I h => h.elim (ha.run pins s σ H Q I) fun h => h.elim (hb.run pins s σ H Q I) (hc.run pins s σ H Q I)⟩
def sp_allows (K : PySem.W.Frag) (k : Nat) : Sp := fun vs H Q _ => ∃ (a p g fl : Addr) (t : Told) (known here there : List Str), vs = [.ref a, .ref p, .ref g, .ref fl] ∧ t.kind = k ∧ PinAt K H a t ∧ SqT K H p (here.map V.str) ∧ SqT K H g (there.map V.str) ∧ SqL K H fl (known.map V.str) ∧
  here.length ≤ 12 ∧ there.length ≤ 12 ∧ (∀ x ∈ here, NameOk x) ∧ (∀ x ∈ there, NameOk x) ∧ ∀ H', Sub H H' → Q (.bl (allowsB known here there t)) H'
abbrev n_Must_allows : List Str := ["self", "path", "goal", "flags"]
theorem sc_Must_allows : FnScope n_Must_allows ["self", "path", "goal", "flags"] (defScope mMust_allows) := ⟨rfl, rfl, rfl, by decide +kernel, rfl, by decide +kernel, by decide +kernel⟩
theorem ok_Must_allows (T : Txt K mg) : Met P w K mg base 1 (ga K "Must") "allows" (sp_allows K 0) [] := by
  refine met_of T.f_Must_allows T.c_Must T.m_Must_allows sc_Must_allows (fun vs H Q E h => ?_) (fun _ _ _ _ _ _ us hl => match us, hl with | [_, _, _, _], _ => rfl) (fun f cdv A outer s H vs Q E hr h => ?_)
  · obtain ⟨a, p, g, fl, t, known, here, there, rfl, _⟩ := h
    rfl
  · obtain ⟨a, p, g, fl, t, known, here, there, rfl, hk, ha, hp, hg, hf, h12, t12, nh, nt, k⟩ := h
    refine ⟨_, (pss_one (ps_ret (pe_cmpR op_in_seq (pe_fld (pv 0) rfl) (pv 2) rfl))), ?_⟩
    cases t with
    | must u x =>
      obtain ⟨dx, e⟩ := ha
      refine ⟨_, rfl, a, _, dx, _, _, rfl, e, T.c_Must, T.a_Must_wanted_flag, rfl, _, rfl, g, _, rfl, .inr hg, rfl, flat_str there, ?_⟩
      show Q (.bl (inV (.str x) (there.map V.str))) H
      rw [inV_str]
      exact k H (Sub.refl _)
    | never u x => exact nomatch hk
    | stay u => exact nomatch hk
abbrev n_Never_allows : List Str := ["self", "path", "goal", "flags"]
theorem sc_Never_allows : FnScope n_Never_allows ["self", "path", "goal", "flags"] (defScope mNever_allows) := ⟨rfl, rfl, rfl, by decide +kernel, rfl, by decide +kernel, by decide +kernel⟩
theorem ok_Never_allows (T : Txt K mg) : Met P w K mg base 1 (ga K "Never") "allows" (sp_allows K 1) [] := by
  refine met_of T.f_Never_allows T.c_Never T.m_Never_allows sc_Never_allows (fun vs H Q E h => ?_) (fun _ _ _ _ _ _ us hl => match us, hl with | [_, _, _, _], _ => rfl) (fun f cdv A outer s H vs Q E hr h => ?_)
  · obtain ⟨a, p, g, fl, t, known, here, there, rfl, _⟩ := h
    rfl
  · obtain ⟨a, p, g, fl, t, known, here, there, rfl, hk, ha, hp, hg, hf, h12, t12, nh, nt, k⟩ := h
    refine ⟨_, (pss_one (ps_ret (pe_cmpR op_notIn_seq (pe_fld (pv 0) rfl) (pv 2) rfl))), ?_⟩
    cases t with
    | must u x => exact nomatch hk
    | never u x =>
      obtain ⟨dx, e⟩ := ha
      refine ⟨_, rfl, a, _, dx, _, _, rfl, e, T.c_Never, T.a_Never_barred_flag, rfl, _, rfl, g, _, rfl, .inr hg, rfl, flat_str there, ?_⟩
      show Q (.bl (!inV (.str x) (there.map V.str))) H
      rw [inV_str]
      exact k H (Sub.refl _)
    | stay u => exact nomatch hk
abbrev n_Stay_allows : List Str := ["self", "path", "goal", "flags", "name"]
theorem sc_Stay_allows : FnScope n_Stay_allows ["self", "path", "goal", "flags"] (defScope mStay_allows) := ⟨rfl, rfl, rfl, by decide +kernel, rfl, by decide +kernel, by decide +kernel⟩
theorem ok_Stay_allows (T : Txt K mg) : Met P w K mg base 1 (ga K "Stay") "allows" (sp_allows K 2) [] := by
  refine met_of T.f_Stay_allows T.c_Stay T.m_Stay_allows sc_Stay_allows (fun vs H Q E h => ?_) (fun _ _ _ _ _ _ us hl => match us, hl with | [_, _, _, _], _ => rfl) (fun f cdv A outer s H vs Q E hr h => ?_)
  · obtain ⟨a, p, g, fl, t, known, here, there, rfl, _⟩ := h
    rfl
  · obtain ⟨a, p, g, fl, t, known, here, there, rfl, hk, ha, hp, hg, hf, h12, t12, nh, nt, k⟩ := h
    refine ⟨_, (pss_one (ps_ret (pe_cmpR (op_eqD hr.units) (pe_callB cr_sortedS rfl T.n_sorted (by decide +kernel) (pa_cons (pe_lc (own := [("name", 4)]) (g := (gName 4)) (tt := (tTest (tOp (rIn K false) (tVar 4) (tVar 3)))) (te := (tVar 4)) rfl sc_Stay_allows.nd (pi_tup (pv 1)) (blkOk_by (N := n_Stay_allows) (sc := defScope mStay_allows) (by decide +kernel)) (fun _ _ _ _ _ => (pg_name (i := 4) sc_Stay_allows.nd rfl (.inl rfl))) (fun _ _ _ _ _ => pts_one (pt_cmpR op_in_seq (pv 4) (pv 3) rfl)) (fun _ _ _ _ _ => (pv 4))) pa_nil)) (pe_callB cr_sortedST rfl T.n_sorted (by decide +kernel) (pa_cons (pv 2) pa_nil)) (nomark _)))), ?_⟩
    cases t with
    | must u x => exact nomatch hk
    | never u x => exact nomatch hk
    | stay u =>
      refine ⟨_, rfl, p, rfl, ⟨_, hp⟩, k_lcD (walkT (data := here) (f := V.str)) (fun H' s => s.t hp) (fun x => decide (x ∈ known)) V.str (by omega) (fun i d H' _ s Q q => ?_) (fun i d H' _ _ s Q q => ⟨_, rfl, q _ _ (Sub.refl _) rfl⟩) (fun D H1 n1 s1 e1 => ?_)⟩
      · refine ⟨_, rfl, _, rfl, fl, known.map V.str, rfl, .inl (s.l hf), rfl, flat_str known, _, rfl, ?_⟩
        show Q (inV (.str d) (known.map V.str)) _
        rw [inV_str]
        exact q _ (Sub.refl _)
      · refine ⟨D, here.filter fun x => decide (x ∈ known), rfl, SqL.of e1, Nat.lt_of_le_of_lt (List.length_filter_le _ _) (by omega), fun ys p2 hpm hs n2 => ?_⟩
        have s2 := s1.trans (Sub.new (o := .lst (ys.map V.str)) n2)
        refine ⟨_, rfl, g, there, rfl, s2.t hg, by omega, fun zs p3 hpm3 hs3 n3 => ?_⟩
        have s3 := s2.trans (Sub.new (o := .lst (zs.map V.str)) n3)
        have n23 : p2 ≠ p3 := fun z => by rw [← z, upd_same] at n3; cases n3
        refine eqD_strs (SqL.of ((upd_ne n23).trans upd_same)) (SqL.of upd_same) (fun x hx => (nh x (List.mem_filter.mp (hpm.mem_iff.mp hx)).1).str) (fun x hx => (nt x (hpm3.mem_iff.mp hx)).str) ?_
        have := k _ s3
        unfold allowsB at this
        rw [← srt_is hpm hs, ← srt_is hpm3 hs3] at this
        exact this
/-- pin.allows(path, way, flags), the pin's kind unknown -/
theorem rd_allows {ta : TE} {tr : TA} {σ : L2.St} {H : Hp} {Q : VK} {a p g : Addr} {t : Told} {known here there : List Str} (ha : PinAt K H a t) (ta_ : ∀ Q : VK, Q (.ref a) H → ta σ H Q)
    (tr_ : ∀ Q : List V → Hp → Prop, (∀ (fl : Addr) (H2 : Hp), Sub H H2 → SqL K H2 fl (known.map V.str) → Q [.ref p, .ref g, .ref fl] H2) → tr σ H Q)
    (hp : SqT K H p (here.map V.str)) (hg : SqT K H g (there.map V.str)) (h12 : here.length ≤ 12) (t12 : there.length ≤ 12) (nh : ∀ x ∈ here, NameOk x) (nt : ∀ x ∈ there, NameOk x) (k : ∀ H', Sub H H' → Q (.bl (allowsB known here there t)) H') :
    tOr3 (tMeth (ga K "Must") "allows" (sp_allows K 0) [] E0 ta tr) (tMeth (ga K "Never") "allows" (sp_allows K 1) [] E0 ta tr) (tMeth (ga K "Stay") "allows" (sp_allows K 2) [] E0 ta tr) σ H Q := by
  cases t with
  | must u x =>
    refine .inl (ta_ _ ?_)
    obtain ⟨dx, e⟩ := id ha
    refine ⟨a, dx, _, rfl, e, rfl, tr_ _ fun fl H2 s hf => ?_⟩
    exact ⟨a, p, g, fl, _, known, here, there, rfl, rfl, s.pin ha, s.t hp, s.t hg, hf, h12, t12, nh, nt, fun H' s' => k H' (s.trans s')⟩
  | never u x =>
    refine .inr (.inl (ta_ _ ?_))
    obtain ⟨dx, e⟩ := id ha
    refine ⟨a, dx, _, rfl, e, rfl, tr_ _ fun fl H2 s hf => ?_⟩
    exact ⟨a, p, g, fl, _, known, here, there, rfl, rfl, s.pin ha, s.t hp, s.t hg, hf, h12, t12, nh, nt, fun H' s' => k H' (s.trans s')⟩
  | stay u =>
    refine .inr (.inr (ta_ _ ?_))
    obtain ⟨dx, e⟩ := id ha
    refine ⟨a, dx, _, rfl, e, rfl, tr_ _ fun fl H2 s hf => ?_⟩
    exact ⟨a, p, g, fl, _, known, here, there, rfl, rfl, s.pin ha, s.t hp, s.t hg, hf, h12, t12, nh, nt, fun H' s' => k H' (s.trans s')⟩

/-! ### costs -/
open Classical in
noncomputable def pth (g : Str → Option Str) (x : Str) : List Str := if h : ∃ xs, IsPath g x xs then Classical.choose h else []
theorem pth_is {g : Str → Option Str} {x : Str} {xs : List Str} (h : IsPath g x xs) : pth g x = xs := by
  have h2 : ∃ xs, IsPath g x xs := ⟨xs, h⟩
  unfold pth
  rw [dif_pos h2]
  exact (Classical.choose_spec h2).uniq h
theorem nf_fun (l : List (Str × Str)) : aGet (nf l) = aGet l := funext nf_get
noncomputable def places (l : List (Str × Str)) : List Str := "" :: srt (l.map (·.1))
noncomputable def rowOf (lp lg : List (Str × Str)) (ts : List Told) (u : Nat) (x : Str) : List (Str × Int) :=
  ((places lg).filter fun o => (ts.filter fun t => decide (t.who = u)).all fun t => allowsB (srt (lg.map (·.1))) (pth (aGet lp) x) (pth (aGet lg) o) t).map
    fun o => (o, ((diffN (pth (aGet lp) x) (pth (aGet lg) o) + diffN (pth (aGet lg) o) (pth (aGet lp) x) : Nat) : Int))
noncomputable def rowsOf (lp lg : List (Str × Str)) (ts : List Told) (xs : List Str) : List (List (Str × Int)) := xs.mapIdx fun u x => rowOf lp lg ts u x
abbrev Rows := List (List (Str × Int))
structure CostsAt (H : Hp) (F : Addr) (rows : Rows) : Prop where
  ex : ∃ cs : List (Addr × List (Str × Int)), H F = some (.lst (cs.map fun e => V.ref e.1)) ∧ cs.map (·.2) = rows ∧ ∀ e ∈ cs, FDf V.int H e.1 e.2
theorem Sub.costs {H H' : Hp} {F : Addr} {rows : Rows} (s : Sub H H') (h : CostsAt H F rows) : CostsAt H' F rows := let ⟨cs, h1, h2, h3⟩ := h.ex; ⟨cs, s _ _ h1, h2, fun e he => s.f (h3 e he)⟩
theorem IsPath.names {l : List (Str × Str)} (t : Tree l) {x : Str} {xs : List Str} (h : IsPath (aGet l) x xs) : ∀ y ∈ xs, NameOk y := by
  induction h with
  | root => intro y hy; cases hy
  | step n e _ ih =>
    intro y hy
    rcases List.mem_append.mp hy with z | z
    · exact ih y z
    · rw [show y = _ from by simpa using z]
      exact t.ok _ (List.mem_map.mpr ⟨_, aGet_mem e, rfl⟩)
theorem mem_places {l : List (Str × Str)} {x : Str} : x ∈ places l ↔ x = "" ∨ x ∈ l.map (·.1) := by
  unfold places
  rw [List.mem_cons, (srt_perm _).mem_iff]
theorem Tree.nfp {l : List (Str × Str)} (t : Tree l) {x : Str} (h : x ∈ places l) : IsPath (aGet l) x (pth (aGet l) x) ∧ (pth (aGet l) x).length ≤ 12 ∧ ∀ y ∈ pth (aGet l) x, NameOk y := by
  obtain ⟨xs, h1, h2⟩ := t.pathOf (mem_places.mp h)
  rw [pth_is h1]
  exact ⟨h1, h2, h1.names t⟩
theorem dint {a b : Nat} : decide (V.int (a : Int) = V.int (b : Int)) = decide (a = b) := by
  by_cases h : a = b
  · subst h; simp
  · rw [decide_eq_false h]
    exact decide_eq_false fun z => h (Int.ofNat.inj (V.int.inj z))
end
end K31
set_option Elab.async false
set_option linter.all false
set_option maxRecDepth 100000
set_option maxHeartbeats 4000000
namespace K31
open PySem PySem.Spec PyProof.Rows L2 He
open C8 (Cal Met Mak pe_c pe_mk pe_mt pe_mt0 pe_gc)
section
variable {P : Program} {w : World} {K : PySem.W.Frag} {mg : Str → Option Value} {base : Heap}
theorem srt_len (l : List Str) : (srt l).length = l.length := (srt_perm l).length_eq
theorem places_nd {l : List (Str × Str)} (t : Tree l) : (places l).Nodup := by
  unfold places
  refine List.nodup_cons.mpr ⟨fun h => ?_, (srt_perm _).nodup_iff.mpr t.nd⟩
  exact (t.ok _ ((srt_perm _).mem_iff.mp h)).ne rfl
theorem nf_places {l : List (Str × Str)} : ("" : Str) :: (nf l).map (·.1) = places l := by rw [nf_keys]; rfl
theorem rowOf_keys {lp lg : List (Str × Str)} {ts : List Told} {u : Nat} {x : Str} (t : Tree lg) : ((rowOf lp lg ts u x).map (·.1)).Nodup := by
  unfold rowOf
  rw [List.map_map]
  show (List.map id _).Nodup
  rw [List.map_id]
  exact (places_nd t).filter _
/-- the row, place by place -/
noncomputable def rowTo (lp lg : List (Str × Str)) (ts : List Told) (u : Nat) (x : Str) (pl : List Str) : List (Str × Int) :=
  (pl.filter fun o => (ts.filter fun t => decide (t.who = u)).all fun t => allowsB (srt (lg.map (·.1))) (pth (aGet lp) x) (pth (aGet lg) o) t).map
    fun o => (o, ((diffN (pth (aGet lp) x) (pth (aGet lg) o) + diffN (pth (aGet lg) o) (pth (aGet lp) x) : Nat) : Int))
theorem rowTo_sub {lp lg : List (Str × Str)} {ts : List Told} {u : Nat} {x : Str} {pl : List Str} {o : Str} (h : o ∉ pl) : o ∉ (rowTo lp lg ts u x pl).map (·.1) := by
  unfold rowTo
  rw [List.map_map]
  show o ∉ List.map id _
  rw [List.map_id]
  exact fun z => h (List.mem_filter.mp z).1
theorem rowTo_snoc {lp lg : List (Str × Str)} {ts : List Told} {u : Nat} {x : Str} {pl : List Str} {o : Str} : rowTo lp lg ts u x (pl ++ [o]) = rowTo lp lg ts u x pl ++ (if ((ts.filter fun t => decide (t.who = u)).all fun t => allowsB (srt (lg.map (·.1))) (pth (aGet lp) x) (pth (aGet lg) o) t) = true then [(o, ((diffN (pth (aGet lp) x) (pth (aGet lg) o) + diffN (pth (aGet lg) o) (pth (aGet lp) x) : Nat) : Int))] else []) := by
  unfold rowTo
  rw [List.filter_append, List.map_append]
  congr 1
  rw [List.filter_cons]
  split <;> rfl
theorem rowTo_len {lp lg : List (Str × Str)} {ts : List Told} {u : Nat} {x : Str} {pl : List Str} : (rowTo lp lg ts u x pl).length ≤ pl.length := by
  unfold rowTo
  rw [List.length_map]
  exact List.length_filter_le _ _
theorem rowsOf_snoc {lp lg : List (Str × Str)} {ts : List Told} {xs : List Str} {x : Str} : rowsOf lp lg ts (xs ++ [x]) = rowsOf lp lg ts xs ++ [rowOf lp lg ts xs.length x] := by
  unfold rowsOf
  rw [List.mapIdx_concat]
def sp_costs_of (K : PySem.W.Frag) : Sp := fun vs H Q _ => ∃ (f a g q : Addr) (lp lg : List (Str × Str)) (xs : List Str) (ps : Pins), vs = [.ref f, .ref a, .ref g, .ref q] ∧ ForestAt K H f (nf lp) ∧ Tree lp ∧ H a = some (.lst (xs.map V.str)) ∧ (∀ x ∈ xs, x ∈ places lp) ∧ xs.length ≤ 60 ∧
  ForestAt K H g (nf lg) ∧ Tree lg ∧ PinsT K H q ps ∧ ps.length ≤ 100 ∧ ∀ (F : Addr) (H' : Hp), H F = none → Sub H H' → CostsAt H' F (rowsOf lp lg (ps.map (·.2)) xs) → Q (.ref F) H'
abbrev n_costs_of : List Str := ["forest", "places", "goal", "pins", "found", "user", "place", "path", "own", "costs", "other", "way", "pin"]
theorem sc_costs_of : FnScope n_costs_of ["forest", "places", "goal", "pins"] (defScope scosts_of) := ⟨rfl, rfl, rfl, by decide +kernel, rfl, by decide +kernel, by decide +kernel⟩
theorem ok_costs_of (T : Txt K mg) : Cal P w K mg base 4 "costs_of" (sp_costs_of K) [] := by
  refine cal_of T.f_costs_of T.g_costs_of sc_costs_of (fun vs H Q E h => ?_) (fun _ _ _ _ _ _ us hl => match us, hl with | [_, _, _, _], _ => rfl) (fun f0 cdv A outer s0 H vs Q E hr h => ?_)
  · obtain ⟨f, a, g, q, lp, lg, xs, ps, rfl, _⟩ := h
    rfl
  · obtain ⟨f, a, g, q, lp, lg, xs, ps, rfl, hf, tp, ha, hx, h60, hg, tg, hq, hps, k⟩ := h
    have hu := hu_of hr
    have hlg : (places lg).length ≤ 13 := by
      unfold places
      rw [List.length_cons, srt_len, List.length_map]
      have := tg.hi
      omega
    refine ⟨_, (pss_cons (ps_set (i := 4) sc_costs_of.nd rfl (.inl rfl) (pe_lst pa_nil))
  (pss_cons (ps_for PassesOwn.never rfl (pi_enum rfl T.n_enumerate (pa_cons (pv 1) pa_nil)) (pg_tup (n := 2) rfl (pgs_cons (pg_name (i := 5) sc_costs_of.nd rfl (.inr rfl)) (pgs_cons (pg_name (i := 6) sc_costs_of.nd rfl (.inl rfl)) pgs_nil)))
  (pss_cons (ps_set (i := 7) sc_costs_of.nd rfl (.inr rfl) (pe_c (ok_path_in T) hr (by decide) rfl (pa_cons (pe_fld (pv 0) rfl) (pa_cons (pv 6) pa_nil))))
  (pss_cons (ps_setLc (i := 8) (own := [("pin", 12)]) (g := (gName 12)) (tt := (tTest (tOp rEq (tFld K (tVar 12) "who") (tVar 5)))) (te := (tVar 12)) rfl sc_costs_of.nd rfl rfl (sw_true rfl rfl rfl (by decide +kernel)) (pi_tup (pv 3)) (blkOk_by (N := n_costs_of) (sc := defScope scosts_of) (by decide +kernel)) (fun _ _ _ _ _ => (pg_name (i := 12) sc_costs_of.nd rfl (.inl rfl))) (fun _ _ _ _ _ => pts_one (pt_cmpR op_eq (pe_fld (pv 12) rfl) (pv 5) (nomark _))) (fun _ _ _ _ _ => (pv 12)))
  (pss_cons (ps_set (i := 9) sc_costs_of.nd rfl (.inl rfl) pe_dnewK)
  (pss_cons (ps_for PassesOwn.never rfl (pi_list (pe_c (ok_places_of T) hr (by decide) rfl (pa_cons (pv 2) pa_nil))) (pg_name (i := 10) sc_costs_of.nd rfl (.inl rfl))
  (pss_cons (ps_set (i := 11) sc_costs_of.nd rfl (.inr rfl) (pe_c (ok_path_in T) hr (by decide) rfl (pa_cons (pe_fld (pv 2) rfl) (pa_cons (pv 10) pa_nil))))
  (pss_one (ps_if (pt_val (pe_callB (cr_all rfl) rfl T.n_all (by decide +kernel) (pa_cons (pe_lc (own := [("pin", 12)]) (g := (gName 12)) (tt := tYes) (te := (tOr3 (tMeth (ga K "Must") "allows" (sp_allows K 0) [] E0 (tVar 12) (tCons (tVar 7) (tCons (tVar 11) (tCons (tProp (ga K "Forest") (sp_Forest_flags K) [] E0 (tVar 2)) tNil)))) (tMeth (ga K "Never") "allows" (sp_allows K 1) [] E0 (tVar 12) (tCons (tVar 7) (tCons (tVar 11) (tCons (tProp (ga K "Forest") (sp_Forest_flags K) [] E0 (tVar 2)) tNil)))) (tMeth (ga K "Stay") "allows" (sp_allows K 2) [] E0 (tVar 12) (tCons (tVar 7) (tCons (tVar 11) (tCons (tProp (ga K "Forest") (sp_Forest_flags K) [] E0 (tVar 2)) tNil)))))) rfl sc_costs_of.nd (pi_list (pv 8)) (blkOk_by (N := n_costs_of) (sc := defScope scosts_of) (by decide +kernel)) (fun _ _ _ _ _ => (pg_name (i := 12) sc_costs_of.nd rfl (.inl rfl))) (fun _ _ _ _ _ => pts_nil) (fun _ _ _ _ _ => (pe_or3 (pe_mt (ok_Must_allows T) hr (by decide) (pv 12) (pa_cons (pv 7) (pa_cons (pv 11) (pa_cons (pr_Forest_flags T hr (by decide) (pv 2)) pa_nil)))) (pe_mt (ok_Never_allows T) hr (by decide) (pv 12) (pa_cons (pv 7) (pa_cons (pv 11) (pa_cons (pr_Forest_flags T hr (by decide) (pv 2)) pa_nil)))) (pe_mt (ok_Stay_allows T) hr (by decide) (pv 12) (pa_cons (pv 7) (pa_cons (pv 11) (pa_cons (pr_Forest_flags T hr (by decide) (pv 2)) pa_nil))))))) pa_nil))) (pss_one (ps_dput hu (pv 9) (pv 10) (pe_c (ok_path_difference T) hr (by decide) rfl (pa_cons (pv 7) (pa_cons (pv 11) pa_nil))) rfl)) pss_nil))))
  (pss_one (ps_expr (pe_bm PySem.F.plainAttrs_list PySem.F.slot_list_append PySem.F.type_list_append mt_append (pv 4) (pa_cons (pe_freeze (pv 9)) pa_nil)))))))))
  (pss_one (ps_ret (pv 4))))), ?_⟩
    refine ⟨by decide, fun F nF => ?_⟩
    refine ⟨_, rfl, a, _, rfl, SqL.of ((Sub.new nF) _ _ ha), ?_⟩
    have aF : a ≠ F := ne_of_none ha nF
    refine for_it (walkE (K := K) (a := a) (data := xs) (f := V.str)) (fun i σ H' => ∃ o5 o6 o7 o8 o9 o10 o11 o12, σ = [some (.ref f), some (.ref a), some (.ref g), some (.ref q), some (.ref F), o5, o6, o7, o8, o9, o10, o11, o12] ∧ Sub H H' ∧ CostsAt H' F (rowsOf lp lg (ps.map (·.2)) (xs.take i)))
      ⟨_, _, _, _, _, _, _, _, rfl, Sub.new nF, ⟨[], upd_same, rfl, fun _ h => absurd h (by simp)⟩⟩ (fun i σ H' _ ⟨_, _, _, _, _, _, _, _, _, s, _⟩ => SqL.of (s _ _ ha)) ?_ (fun σ H2 ⟨_, _, _, _, _, _, _, _, hσ, s2, hc⟩ => ?_)
    rotate_left
    · subst hσ
      rw [List.take_length] at hc
      exact ⟨_, rfl, k F H2 nF s2 hc⟩
    rintro i x σ H2 H3 hi ⟨o5, o6, o7, o8, o9, o10, o11, o12, rfl, s2, hc⟩ ⟨t, u, v, rfl, hn1, rfl, eu, ev⟩
    cases eu
    have := get_map hi ev
    subst this
    have hm := hx _ (List.getElem_mem hi)
    have tk := take_get hi
    generalize xs[i] = x at hm tk ⊢
    have s23 : Sub H2 (upd H2 t (.tup [.int (i : Nat), .str x])) := Sub.new hn1
    generalize hH3 : upd H2 t (.tup [.int (i : Nat), .str x]) = H3 at s23 ⊢
    have s3 := s2.trans s23
    have hc3 := s23.costs hc
    refine gPair (by rw [← hH3]; exact upd_same) ?_
    obtain ⟨dxf, df, ef1, ef2⟩ := s3.forest hf
    obtain ⟨ip, ipl, ipn⟩ := tp.nfp hm
    refine ⟨_, rfl, f, _, dxf, _, _, rfl, ef1, T.c_Forest, T.a_Forest_above, rfl, _, rfl, ?_⟩
    refine ⟨df, nf lp, x, pth (aGet lp) x, rfl, ef2.rd, by rw [nf_fun]; exact ip, by omega, fun pa H4 n4 s34 e4 => ?_⟩
    have s4 := s3.trans s34
    refine ⟨_, rfl, q, rfl, ⟨_, (s4.pins hq).sq⟩, k_lcD (walkT (data := ps) (f := fun e : Addr × Told => V.ref e.1)) (fun H' s => s.t (s4.pins hq).sq) (fun e : Addr × Told => decide (e.2.who = i)) (fun e : Addr × Told => .ref e.1) (by omega) (fun j e H' he s Q2 q2 => ?_) (fun j e H' _ _ s Q2 q2 => ⟨_, rfl, q2 _ _ (Sub.refl _) rfl⟩) (fun O H5 n5 s45 e5 => ?_)⟩
    · obtain ⟨C1, dx1, fs1, p1, p2, p3, p4⟩ := pin_who T ((s4.trans s).pin (hq.each e (List.mem_of_getElem? he)))
      refine ⟨_, rfl, _, C1, dx1, fs1, _, rfl, p1, p2, p3, p4, ?_⟩
      refine ⟨_, rfl, rfl, _, rfl, ?_⟩
      rw [dint]
      exact q2 _ (Sub.refl _)
    have s5 := s4.trans s45
    refine fun C nC => ?_
    have s35 := s34.trans s45
    have nCH3 : H3 C = none := s35.fresh nC
    have nC0 : H C = none := s3.fresh nCH3
    refine ⟨_, rfl, g, nf lg, rfl, (s5.trans (Sub.new nC)).forest hg, by rw [nf_len]; exact tg.hi, fun L H6 n6 s56 e6 => ⟨L, rfl, ⟨_, SqL.of e6⟩, ?_⟩⟩
    rw [nf_places] at e6
    have eC6 : H6 C = some (.dK (kS V.int (rowTo lp lg (ps.map (·.2)) i x []))) := s56 _ _ upd_same
    have s36 : Sub H3 H6 := (s35.trans (Sub.new nC)).trans s56
    have s56' : Sub H5 H6 := (Sub.new nC).trans s56
    have LC : L ≠ C := (ne_of_none upd_same n6).symm
    refine for_it (walkL (K := K) (a := L) (data := places lg) (f := V.str)) (fun j σ H' => ∃ o10 o11 o12, σ = [some (.ref f), some (.ref a), some (.ref g), some (.ref q), some (.ref F), some (.int (i : Nat)), some (.str x), some (.ref pa), some (.ref O), some (.ref C), o10, o11, o12] ∧ Sub H5 H' ∧ H' L = some (.lst ((places lg).map V.str)) ∧ H' C = some (.dK (kS V.int (rowTo lp lg (ps.map (·.2)) i x ((places lg).take j)))))
      ⟨_, _, _, rfl, s56', e6, eC6⟩ (fun j σ H' _ ⟨_, _, _, _, _, e, _⟩ => SqL.of e) ?_ (fun σ H7 ⟨_, _, _, hσ, s57, _, eC7⟩ => ?_)
    rotate_left
    · -- the row is done: it is frozen, and stands in the list
      subst hσ
      rw [List.take_length] at eC7
      have s37 := s35.trans s57
      obtain ⟨cs, c1, c2, c3⟩ := (s37.costs hc3).ex
      refine ⟨_, rfl, .inl ⟨rfl, _, SqL.of c1⟩, ?_⟩
      refine ⟨_, rfl, C, _, rfl, eC7, True.intro, fun o => ?_⟩
      have FC : F ≠ C := fun z => by rw [z, eC7] at c1; cases c1
      have s8 : Sub H3 (upd H7 C (.frz o (.dK (kS V.int (rowTo lp lg (ps.map (·.2)) i x (places lg)))))) := s37.mut nCH3
      have hlen : cs.length ≤ 60 := by
        have := congrArg List.length c2
        rw [List.length_map] at this
        rw [this]
        unfold rowsOf
        rw [List.length_mapIdx, List.length_take]
        omega
      refine ⟨F, _, .ref C, rfl, rfl, (upd_ne FC).trans c1, szl (by rw [List.length_map]; omega), ?_⟩
      have nF3 : ∀ e ∈ cs, e.1 ≠ F := fun e he z => by
        obtain ⟨o', e'⟩ := c3 e he
        rw [z, c1] at e'
        cases e'
      have nC3 : ∀ e ∈ cs, e.1 ≠ C := fun e he z => by
        obtain ⟨o', e'⟩ := c3 e he
        rw [z, eC7] at e'
        cases e'
      refine ⟨_, _, _, _, _, _, _, _, rfl, (s3.trans s8).mut nF, ⟨cs ++ [(C, rowTo lp lg (ps.map (·.2)) i x (places lg))], ?_, ?_, ?_⟩⟩
      · rw [upd_same, List.map_append]; rfl
      · rw [tk, rowsOf_snoc, List.map_append, c2, List.length_take, Nat.min_eq_left (Nat.le_of_lt hi)]
        rfl
      · intro e he
        rcases List.mem_append.mp he with z | z
        · obtain ⟨o', e'⟩ := c3 e z
          exact ⟨o', by rw [upd_ne (nF3 e z), upd_ne (nC3 e z)]; exact e'⟩
        · have : e = (C, rowTo lp lg (ps.map (·.2)) i x (places lg)) := by simpa using z
          subst this
          exact ⟨o, by rw [upd_ne FC.symm]; exact upd_same⟩
    rintro j y σ H7 H8 hj ⟨o10, o11, o12, rfl, s57, eL7, eC7⟩ ⟨ez, ey⟩
    subst ez
    have : y = V.str (places lg)[j] := ey.trans (get_D hj)
    subst this
    have hmj : (places lg)[j] ∈ places lg := List.getElem_mem hj
    have tkj := take_get hj
    have hnj : (places lg)[j] ∉ (places lg).take j := fun z => by
      have h1 := places_nd tg
      rw [← List.take_append_drop j (places lg), List.drop_eq_getElem_cons hj] at h1
      exact (List.nodup_append.mp h1).2.2 _ z _ (List.mem_cons_self ..) rfl
    generalize (places lg)[j] = y at hmj tkj hnj ⊢
    obtain ⟨iy, iyl, iyn⟩ := tg.nfp hmj
    obtain ⟨dxg, dg, eg1, eg2⟩ := (s5.trans s57).forest hg
    refine ⟨_, rfl, g, _, dxg, _, _, rfl, eg1, T.c_Forest, T.a_Forest_above, rfl, _, rfl, ?_⟩
    refine ⟨dg, nf lg, y, pth (aGet lg) y, rfl, eg2.rd, by rw [nf_fun]; exact iy, by omega, fun wa H9 n9 s79 e9 => ?_⟩
    have s59 := s57.trans s79
    have eO : H9 O = some (.lst ((ps.filter fun e : Addr × Told => decide (e.2.who = i)).map fun e : Addr × Told => V.ref e.1)) := s59 _ _ e5
    refine ⟨_, rfl, O, rfl, ⟨_, SqL.of eO⟩, k_lcD (data := ps.filter fun e : Addr × Told => decide (e.2.who = i)) (toV := fun e : Addr × Told => V.ref e.1) (walkL (K := K) (a := O) (data := ps.filter fun e : Addr × Told => decide (e.2.who = i)) (f := fun e : Addr × Told => V.ref e.1)) (fun H' s => s.l (SqL.of eO)) (fun _ => true) (fun e : Addr × Told => .bl (allowsB (srt (lg.map (·.1))) (pth (aGet lp) x) (pth (aGet lg) y) e.2)) (Nat.le_trans (List.length_filter_le _ _) (by omega)) (fun _ _ _ _ _ => evB_yes) (fun m e H' he _ s Q2 q2 => ?_) (fun B H10 n10 s910 e10 => ?_)⟩
    · have hme : e ∈ ps := (List.mem_filter.mp (List.mem_of_getElem? he)).1
      have s5' := (s59.trans s)
      refine rd_allows (known := srt (lg.map (·.1))) ((s5.trans s5').pin (hq.each e hme)) (fun Q q => ⟨_, rfl, q⟩) (fun Q q => ⟨_, rfl, _, rfl, _, rfl, rd_flags ((s5.trans s5').forest hg) fun fl H11 n11 s11 e11 => ?_⟩) ((s45.trans s5').t (SqT.of e4)) (s.t (SqT.of e9)) ipl iyl ipn iyn fun H' s' => q2 _ _ s' rfl
      rw [nf_keys] at e11
      exact q fl H11 s11 (SqL.of e11)
    refine ⟨B, ((ps.filter fun e : Addr × Told => decide (e.2.who = i)).map fun e => allowsB (srt (lg.map (·.1))) (pth (aGet lp) x) (pth (aGet lg) y) e.2), rfl, SqL.of ?_, _, rfl, ?_⟩
    · rw [e10, List.filter_eq_self.mpr fun _ _ => rfl, List.map_map]
      rfl
    have eall : ((ps.filter fun e : Addr × Told => decide (e.2.who = i)).map fun e => allowsB (srt (lg.map (·.1))) (pth (aGet lp) x) (pth (aGet lg) y) e.2).all id = (((ps.map (·.2)).filter fun t => decide (t.who = i)).all fun t => allowsB (srt (lg.map (·.1))) (pth (aGet lp) x) (pth (aGet lg) y) t) := by
      rw [List.filter_map, List.all_map, List.all_map]
      rfl
    rw [eall]
    have s510 := s59.trans s910
    have s710 := s79.trans s910
    refine rd_ite (fun hb => ?_) (fun hb => ?_)
    · refine ⟨_, rfl, _, rfl, pa, wa, pth (aGet lp) x, pth (aGet lg) y, rfl, (s45.trans s510).t (SqT.of e4), s910.t (SqT.of e9), by omega, by omega, fun H11 s11 => ?_⟩
      have s711 := s710.trans s11
      refine ⟨_, rfl, _, rfl, C, _, rfl, dput_d (s711 _ _ eC7) y _ (by have := rowTo_len (lp := lp) (lg := lg) (ts := ps.map (·.2)) (u := i) (x := x) (pl := (places lg).take j); rw [List.length_take] at this; omega), ?_⟩
      refine ⟨_, _, _, rfl, (s510.trans s11).mut nC, (upd_ne LC).trans (s711 _ _ eL7), ?_⟩
      rw [upd_same, aPut_new (rowTo_sub hnj), tkj, rowTo_snoc, if_pos hb]
    · refine ⟨_, _, _, rfl, s510, s710 _ _ eL7, ?_⟩
      rw [tkj, rowTo_snoc, if_neg (by rw [hb]; decide), List.append_nil]
      exact s710 _ _ eC7
end
end K31
set_option Elab.async false
set_option linter.all false
set_option maxRecDepth 100000
set_option maxHeartbeats 4000000
namespace K31
open PySem PySem.Spec PyProof.Rows L2 He
open C8 (Cal Met Mak pe_c pe_mk pe_mt pe_mt0 pe_gc)
/-! ### the users' places, a dict by the user's number -/
def gkvF : Nat → List Str → List (Key × V)
  | _, [] => []
  | n, p :: gl => (Sum.inl (n : Int), .str p) :: gkvF (n + 1) gl
def gkv (gl : List Str) : List (Key × V) := gkvF 0 gl
theorem gkvF_len : ∀ {n : Nat} {gl : List Str}, (gkvF n gl).length = gl.length
  | _, [] => rfl
  | n, p :: gl => congrArg (· + 1) (gkvF_len (n := n + 1) (gl := gl))
theorem gkvF_at : ∀ {n i : Nat} {gl : List Str}, (gkvF n gl)[i]? = (gl[i]?).map fun p => (Sum.inl ((n + i : Nat) : Int), V.str p)
  | _, _, [] => by simp [gkvF]
  | n, 0, p :: gl => by simp [gkvF]
  | n, i + 1, p :: gl => by
    show (gkvF (n + 1) gl)[i]? = _
    rw [gkvF_at, show n + 1 + i = n + (i + 1) by omega]
    simp
theorem gkvF_val : ∀ {n i : Nat} {gl : List Str}, valV (gkvF n gl) (Sum.inl ((n + i : Nat) : Int)) = (gl[i]?).map V.str
  | _, _, [] => rfl
  | n, 0, p :: gl => valV_pos (p := ((Sum.inl (n : Int) : Key), V.str p)) rfl
  | n, i + 1, p :: gl => by
    have h : ¬ ((Sum.inl (n : Int) : Key), V.str p).1 = Sum.inl ((n + (i + 1) : Nat) : Int) := fun z => by
      have := Int.ofNat.inj (Sum.inl.inj z)
      omega
    show valV (((Sum.inl (n : Int) : Key), V.str p) :: gkvF (n + 1) gl) _ = _
    rw [valV_neg h, show n + (i + 1) = (n + 1) + i by omega, gkvF_val]
    simp
theorem gkvF_fresh : ∀ {n m : Nat} {gl : List Str}, m < n ∨ n + gl.length ≤ m → (gkvF n gl).any (fun kv => decide (kv.1 = Sum.inl (m : Int))) = false
  | _, _, [], _ => rfl
  | n, m, p :: gl, h => by
    show (decide ((Sum.inl (n : Int) : Key) = Sum.inl (m : Int)) || (gkvF (n + 1) gl).any _) = false
    rw [gkvF_fresh (by simp at h; omega), decide_eq_false, Bool.or_false]
    intro z
    have := Int.ofNat.inj (Sum.inl.inj z)
    simp at h
    omega
theorem gkvF_app : ∀ {n : Nat} {gl : List Str} {p : Str}, gkvF n gl ++ [(Sum.inl ((n + gl.length : Nat) : Int), V.str p)] = gkvF n (gl ++ [p])
  | _, [], _ => rfl
  | n, q :: gl, p => by
    show _ :: (gkvF (n + 1) gl ++ _) = _ :: gkvF (n + 1) (gl ++ [p])
    rw [← gkvF_app, List.length_cons, show n + (gl.length + 1) = n + 1 + gl.length by omega]
theorem gkvF_map : ∀ {n m : Nat} {gl : List Str} {p : Str}, n ≤ m → (gkvF n gl).map (fun kv => if kv.1 = Sum.inl (m : Int) then (kv.1, V.str p) else kv) = gkvF n (gl.set (m - n) p)
  | _, _, [], _, _ => rfl
  | n, m, q :: gl, p, h => by
    show (if (Sum.inl (n : Int) : Key) = Sum.inl (m : Int) then _ else _) :: (gkvF (n + 1) gl).map _ = _
    by_cases e : n = m
    · subst e
      rw [if_pos rfl, Nat.sub_self]
      show _ :: _ = _ :: gkvF (n + 1) gl
      congr 1
      refine (List.map_congr_left fun kv hkv => ?_).trans (List.map_id _)
      have h1 := gkvF_fresh (n := n + 1) (m := n) (gl := gl) (.inl (by omega))
      rw [List.any_eq_false] at h1
      exact if_neg fun z => h1 kv hkv (decide_eq_true z)
    · have e2 : ¬ (Sum.inl (n : Int) : Key) = Sum.inl (m : Int) := fun z => e (Int.ofNat.inj (Sum.inl.inj z))
      rw [if_neg e2, gkvF_map (by omega), show m - n = (m - (n + 1)) + 1 by omega]
      rfl
theorem gkv_val {i : Nat} {gl : List Str} : valV (gkv gl) (Sum.inl (i : Int)) = (gl[i]?).map V.str := by
  have := gkvF_val (n := 0) (i := i) (gl := gl)
  rwa [Nat.zero_add] at this
theorem gkv_new {gl : List Str} {p : Str} : putK (gkv gl) (Sum.inl (gl.length : Int)) (V.str p) = gkv (gl ++ [p]) := by
  unfold putK gkv
  rw [if_neg (by rw [gkvF_fresh (.inr (by omega))]; decide), ← gkvF_app, Nat.zero_add]
theorem gkv_set {gl : List Str} {p : Str} {m : Nat} (h : m < gl.length) : putK (gkv gl) (Sum.inl (m : Int)) (V.str p) = gkv (gl.set m p) := by
  unfold putK gkv
  rw [if_pos, gkvF_map (Nat.zero_le _), Nat.sub_zero]
  refine List.any_eq_true.mpr ⟨(Sum.inl (m : Int), V.str gl[m]), List.mem_of_getElem? (i := m) ?_, decide_eq_true rfl⟩
  rw [gkvF_at, List.getElem?_eq_getElem h, Nat.zero_add]
  try rfl
def usersAt (gl : List Str) (p : Str) : List Nat := (List.range gl.length).filter fun i => decide (gl[i]? = some p)
theorem mem_usersAt {gl : List Str} {p : Str} {m : Nat} : m ∈ usersAt gl p ↔ gl[m]? = some p := by
  unfold usersAt
  rw [List.mem_filter, List.mem_range, decide_eq_true_eq]
  exact ⟨fun h => h.2, fun h => ⟨(List.getElem?_eq_some_iff.mp h).1, h⟩⟩
theorem usersAt_len {gl : List Str} {p : Str} : (usersAt gl p).length = gl.count p := by
  have h := filter_range (fun x => decide (x = p)) gl
  rw [List.count_eq_countP, List.countP_eq_length_filter]
  have e1 : (gl.filter fun x => x == p) = gl.filter fun x => decide (x = p) := by
    congr 1
  rw [e1, ← h]
  unfold usersAt
  congr 2
  funext m
  cases h : gl[m]? with
  | none => simp
  | some x => simp
section
variable {P : Program} {w : World} {K : PySem.W.Frag} {mg : Str → Option Value} {base : Heap}
/-- all but the object at C stays -/
abbrev SubX (C : Addr) (H H' : Hp) : Prop := ∀ a o, a ≠ C → H a = some o → H' a = some o
theorem Sub.x {C : Addr} {H H' : Hp} (s : Sub H H') : SubX C H H' := fun a o _ e => s a o e
theorem SubX.trans {C : Addr} {H H1 H2 : Hp} (s : SubX C H H1) (t : SubX C H1 H2) : SubX C H H2 := fun a o n e => t a o n (s a o n e)
theorem SubX.put {C : Addr} {H H' : Hp} {o : HO} (s : SubX C H H') : SubX C H (upd H' C o) := fun a o' n e => (upd_ne n).trans (s a o' n e)
theorem Sub.unlock {H H' : Hp} {d : Addr} {u : HO} {o : Obj} (h : H d = some u) (s : Sub (upd H d (.frz o u)) H') : Sub H (upd H' d u) := fun a o' e => by
  by_cases z : a = d
  · subst z; rw [h] at e; cases e; exact upd_same
  · rw [upd_ne z]; exact s a o' ((upd_ne z).trans e)
theorem atI_n {α : Type} {xs : List α} {i : Nat} : atI xs (i : Int) = xs[i]? := by
  unfold atI ixN
  by_cases h : i < xs.length
  · rw [if_pos (by omega), if_pos (by omega)]
    simp
  · rw [if_pos (by omega), if_neg (by omega)]
    simp
    omega

/-! ### Market -/
def MktAt (K : PySem.W.Frag) (H : Hp) (m F r gd : Addr) : Prop := ∃ dx, H m = some (.ins (ga K "Market") dx [("costs", .ref F), ("rooms", .ref r), ("given", .ref gd)])
theorem Sub.mkt {H H' : Hp} {m F r gd : Addr} (s : Sub H H') (h : MktAt K H m F r gd) : MktAt K H' m F r gd := let ⟨dx, e⟩ := h; ⟨dx, s _ _ e⟩
theorem walkG {d : Addr} {o : Obj} {gl : List Str} : Walk (Itk d o (gkv gl)) (List.range gl.length).length (fun H => H d = some (.frz o (.dK (gkv gl)))) (YFn fun i => (fun m : Nat => V.int (m : Int)) ((List.range gl.length).getD i default)) := by
  have w := walk_keys (d := d) (o := o) (kvs := gkv gl)
  rw [show (gkv gl).length = gl.length from gkvF_len] at w
  rw [List.length_range]
  refine w.mono (fun _ h => h) fun i H x H' hi _ y => ⟨y.1, ?_⟩
  obtain ⟨_, k, v, e, rfl⟩ := y
  unfold gkv at e
  rw [gkvF_at, List.getElem?_eq_getElem hi] at e
  have e2 := Option.some.inj e
  obtain ⟨rfl, _⟩ := Prod.mk.inj e2
  show V.int ((0 + i : Nat) : Int) = V.int (((List.range gl.length).getD i default : Nat) : Int)
  rw [List.getD_eq_getElem?_getD, List.getElem?_range hi, Nat.zero_add]
  rfl
def sp_Market_users_at (K : PySem.W.Frag) : Sp := fun vs H Q _ => ∃ (m F r gd : Addr) (p : Str) (gl : List Str), vs = [.ref m, .str p] ∧ MktAt K H m F r gd ∧ H gd = some (.dK (gkv gl)) ∧ gl.length ≤ 100 ∧
  ∀ (q : Addr) (H' : Hp), H q = none → Sub H H' → H' q = some (.lst ((usersAt gl p).map fun i => .int (i : Nat))) → Q (.ref q) H'
abbrev n_Market_users_at : List Str := ["self", "place", "user"]
theorem sc_Market_users_at : FnScope n_Market_users_at ["self", "place"] (defScope mMarket_users_at) := ⟨rfl, rfl, rfl, by decide +kernel, rfl, by decide +kernel, by decide +kernel⟩
theorem ok_Market_users_at (T : Txt K mg) : Met P w K mg base 1 (ga K "Market") "users_at" (sp_Market_users_at K) [] := by
  refine met_of T.f_Market_users_at T.c_Market T.m_Market_users_at sc_Market_users_at (fun vs H Q E h => ?_) (fun _ _ _ _ _ _ us hl => match us, hl with | [_, _], _ => rfl) (fun f cdv A outer s H vs Q E hr h => ?_)
  · obtain ⟨m, F, r, gd, p, gl, rfl, _⟩ := h
    rfl
  · obtain ⟨m, F, r, gd, p, gl, rfl, ⟨dx, hm⟩, hg, h100, k⟩ := h
    have hu := hu_of hr
    refine ⟨_, (pss_one (ps_ret (pe_lock (pe_lc (own := [("user", 2)]) (g := (gName 2)) (tt := (tTest (tOp rEq (tDGet (tFld K (tVar 0) "given") (tVar 2)) (tVar 1)))) (te := (tVar 2)) rfl sc_Market_users_at.nd (pi_keys (pe_fld (pv 0) rfl)) (blkOk_by (N := n_Market_users_at) (sc := defScope mMarket_users_at) (by decide +kernel)) (fun _ _ _ _ _ => (pg_name (i := 2) sc_Market_users_at.nd rfl (.inl rfl))) (fun _ _ _ _ _ => pts_one (pt_cmpR op_eq (pe_dget hu (pe_fld (pv 0) rfl) (pv 2) (fun _ _ => rfl)) (pv 1) (nomark _))) (fun _ _ _ _ _ => (pv 2)))))), ?_⟩
    refine ⟨gd, _, hg, True.intro, fun o => ?_⟩
    have hmg : m ≠ gd := fun z => by rw [z, hg] at hm; cases hm
    have hm1 : upd H gd (.frz o (.dK (gkv gl))) m = some (.ins (ga K "Market") dx [("costs", .ref F), ("rooms", .ref r), ("given", .ref gd)]) := (upd_ne hmg).trans hm
    have hg1 : upd H gd (.frz o (.dK (gkv gl))) gd = some (.frz o (.dK (gkv gl))) := upd_same
    refine ⟨_, rfl, m, _, dx, _, _, rfl, hm1, T.c_Market, T.a_Market_given, rfl, gd, o, rfl, .inl ⟨_, hg1, ?_⟩⟩
    refine k_lcD (data := List.range gl.length) (toV := fun m : Nat => V.int (m : Int)) (walkG (gl := gl)) (fun H' s => s _ _ hg1) (fun i => decide (gl[i]? = some p)) (fun i : Nat => V.int (i : Int)) (by rw [List.length_range]; omega) (fun i d H' hd s Q q => ?_) (fun i d H' _ _ s Q q => ⟨_, rfl, q _ _ (Sub.refl _) rfl⟩) (fun D H1 n1 s1 e1 => ⟨s1 _ _ hg1, ?_⟩)
    · have hdl : d < gl.length := List.mem_range.mp (List.mem_of_getElem? hd)
      refine ⟨_, rfl, m, _, dx, _, _, rfl, s _ _ hm1, T.c_Market, T.a_Market_given, rfl, _, rfl, gd, .str gl[d], rfl, .inl ⟨_, Sum.inl (d : Int), .inr ⟨o, s _ _ hg1⟩, rfl, ?_⟩, _, rfl, rfl, _, rfl, ?_⟩
      · rw [gkv_val, List.getElem?_eq_getElem hdl]; rfl
      · have := q _ (Sub.refl _)
        rw [List.getElem?_eq_getElem hdl] at this
        have e : decide (V.str gl[d] = V.str p) = decide (some gl[d] = some p) := by
          by_cases z : gl[d] = p
          · simp [z]
          · rw [decide_eq_false fun y => z (V.str.inj y), decide_eq_false fun y => z (Option.some.inj y)]
        rw [e]
        exact this
    · have nD : D ≠ gd := fun z => by rw [z, hg1] at n1; cases n1
      exact k D _ ((upd_ne nD).symm.trans n1) (s1.unlock hg) ((upd_ne nD).trans e1)
/-- self.users_at(p) -/
theorem rd_users_at {H : Hp} {m F r gd : Addr} {p : Str} {gl : List Str} {Q : VK} {E : XK} (hm : MktAt K H m F r gd) (hg : H gd = some (.dK (gkv gl))) (h100 : gl.length ≤ 100) (k : ∀ (q : Addr) (H' : Hp), H q = none → Sub H H' → H' q = some (.lst ((usersAt gl p).map fun i => .int (i : Nat))) → Q (.ref q) H') :
    sp_Market_users_at K [.ref m, .str p] H Q E := ⟨m, F, r, gd, p, gl, rfl, hm, hg, h100, k⟩
end
end K31
set_option Elab.async false
set_option linter.all false
set_option maxRecDepth 100000
set_option maxHeartbeats 4000000
namespace K31
open PySem PySem.Spec PyProof.Rows L2 He
open C8 (Cal Met Mak pe_c pe_mk pe_mt pe_mt0 pe_gc)
/-! ### the table of costs -/
def costOf (rows : Rows) : Cost Str := fun m p => (rows[m]?).bind fun r => aGet r p
structure RowsOk (rows : Rows) (U : List Str) : Prop where
  nd : ∀ r ∈ rows, (r.map (·.1)).Nodup
  sub : ∀ r ∈ rows, ∀ e ∈ r, e.1 ∈ U
  und : U.Nodup
  ulen : U.length ≤ 13
  cost : ∀ r ∈ rows, ∀ e ∈ r, 0 ≤ e.2 ∧ e.2 ≤ 24
  len : rows.length ≤ 60
  str : ∀ p ∈ U, PyData.strOk p = true
theorem costOf_some {rows : Rows} {m : Nat} {p : Str} {a : Int} (h : costOf rows m p = some a) : ∃ r, rows[m]? = some r ∧ aGet r p = some a := by
  unfold costOf at h
  exact Option.bind_eq_some_iff.mp h
theorem RowsOk.inU {rows : Rows} {U : List Str} (R : RowsOk rows U) {m : Nat} {p : Str} {a : Int} (h : costOf rows m p = some a) : p ∈ U := by
  obtain ⟨r, h1, h2⟩ := costOf_some h
  exact R.sub r (List.mem_of_getElem? h1) (p, a) (aGet_mem h2)
theorem RowsOk.bd {rows : Rows} {U : List Str} (R : RowsOk rows U) {m : Nat} {p : Str} {a : Int} (h : costOf rows m p = some a) : 0 ≤ a ∧ a ≤ 24 := by
  obtain ⟨r, h1, h2⟩ := costOf_some h
  exact R.cost r (List.mem_of_getElem? h1) (p, a) (aGet_mem h2)
theorem sub_len {A B : List Str} (hn : A.Nodup) (h : ∀ a ∈ A, a ∈ B) : A.length ≤ B.length := by
  have g : ∀ l : List Str, sumOn (fun _ => 1) l = l.length := fun l => by
    induction l with
    | nil => rfl
    | cons a l ih => show 1 + sumOn _ l = _; rw [ih, List.length_cons]; omega
  have := sumOn_sub (fun _ => 1) hn h
  rwa [g, g] at this
/-! ### extra -/
abbrev El := List (Str × (Addr × Int × Nat))
def elV : Addr × Int × Nat → V := fun e => .ref e.1
structure ExOk (c : Cost Str) (gl : List Str) (place : Str) (done : Nat → Str → Prop) (el : El) : Prop where
  nd : (el.map (·.1)).Nodup
  edge : ∀ e ∈ el, Edge c gl place e.1 e.2.2.1 e.2.2.2
  low : ∀ m p w, done m p → Edge c gl place p w m → ∃ e, aGet el p = some e ∧ e.2.1 ≤ w
theorem aPut_keys {β : Type} {l : List (Str × β)} {k : Str} {v : β} : (aPut l k v).map (·.1) = if k ∈ l.map (·.1) then l.map (·.1) else l.map (·.1) ++ [k] := by
  unfold aPut
  by_cases h : k ∈ l.map (·.1)
  · obtain ⟨x, hx, e⟩ := List.mem_map.mp h
    rw [if_pos (List.any_eq_true.mpr ⟨x, hx, decide_eq_true e⟩), if_pos h, List.map_map]
    refine List.map_congr_left fun y _ => ?_
    show (if y.1 = k then (y.1, v) else y).1 = y.1
    by_cases z : y.1 = k <;> simp [z]
  · rw [if_neg (fun z => by obtain ⟨x, hx, e⟩ := List.any_eq_true.mp z; exact h (List.mem_map.mpr ⟨x, hx, of_decide_eq_true e⟩)), if_neg h, List.map_append]
    rfl
theorem aPut_nd {β : Type} {l : List (Str × β)} {k : Str} {v : β} (h : (l.map (·.1)).Nodup) : ((aPut l k v).map (·.1)).Nodup := by
  rw [aPut_keys]
  by_cases z : k ∈ l.map (·.1)
  · rw [if_pos z]; exact h
  · rw [if_neg z]
    exact List.nodup_append.mpr ⟨h, by simp, fun a ha b hb e => z (by have : b = k := by simpa using hb
                                                                      rw [← this, ← e]; exact ha)⟩
theorem aPut_mem {β : Type} {l : List (Str × β)} {k : Str} {v : β} {e : Str × β} (h : e ∈ aPut l k v) : e = (k, v) ∨ (e ∈ l ∧ e.1 ≠ k) := by
  unfold aPut at h
  split at h
  · obtain ⟨x, hx, ex⟩ := List.mem_map.mp h
    by_cases z : x.1 = k
    · rw [if_pos z] at ex
      left
      rw [← ex, z]
    · rw [if_neg z] at ex
      subst ex
      exact .inr ⟨hx, z⟩
  · rename_i hn
    rcases List.mem_append.mp h with z | z
    · exact .inr ⟨z, fun y => hn (List.any_eq_true.mpr ⟨e, z, decide_eq_true y⟩)⟩
    · left; simpa using z
theorem ExOk.mono {c : Cost Str} {gl : List Str} {place : Str} {d d' : Nat → Str → Prop} {el : El} (h : ExOk c gl place d el) (k : ∀ m p w, d' m p → Edge c gl place p w m → d m p) : ExOk c gl place d' el := ⟨h.nd, h.edge, fun m p w hd e => h.low m p w (k m p w hd e) e⟩
theorem ExOk.put {c : Cost Str} {gl : List Str} {place o : Str} {d : Nat → Str → Prop} {el : El} {a : Addr} {w : Int} {u : Nat} (h : ExOk c gl place d el) (E : Edge c gl place o w u) (less : ∀ e, aGet el o = some e → w ≤ e.2.1) : ExOk c gl place (fun m p => d m p ∨ (m = u ∧ p = o)) (aPut el o (a, w, u)) := by
  refine ⟨aPut_nd h.nd, fun e he => ?_, fun m p w' hd e' => ?_⟩
  · rcases aPut_mem he with z | ⟨z, _⟩
    · subst z; exact E
    · exact h.edge e z
  · rw [aGet_put]
    by_cases z : p = o
    · subst z
      rw [if_pos rfl]
      refine ⟨_, rfl, ?_⟩
      rcases hd with hd | ⟨rfl, _⟩
      · obtain ⟨e, e1, e2⟩ := h.low m p w' hd e'
        exact Int.le_trans (less e e1) e2
      · obtain ⟨_, _, x, y, h1, h2, h3⟩ := E
        obtain ⟨_, _, x', y', g1, g2, g3⟩ := e'
        rw [h1] at g1; rw [h2] at g2
        cases g1; cases g2
        show w ≤ w'
        omega
    · rw [if_neg z]
      rcases hd with hd | ⟨_, hp⟩
      · exact h.low m p w' hd e'
      · exact absurd hp z
theorem ExOk.skip {c : Cost Str} {gl : List Str} {place o : Str} {d : Nat → Str → Prop} {el : El} {u : Nat} (h : ExOk c gl place d el) (k : ∀ w, Edge c gl place o w u → ∃ e, aGet el o = some e ∧ e.2.1 ≤ w) : ExOk c gl place (fun m p => d m p ∨ (m = u ∧ p = o)) el :=
  ⟨h.nd, h.edge, fun m p w hd e => hd.elim (fun hd => h.low m p w hd e) fun ⟨h1, h2⟩ => by subst h1 h2; exact k w e⟩
theorem lex2 {w w' : Int} {m m' : Nat} : (HT.lexLt [w, (m : Int)] [w', (m' : Int)] = true → w ≤ w') ∧ (HT.lexLt [w, (m : Int)] [w', (m' : Int)] = false → w' ≤ w) := by
  rw [HT.lexLt_cons]
  constructor
  · intro h
    by_cases z : w = w'
    · omega
    · rw [if_neg z] at h
      have := of_decide_eq_true h
      omega
  · intro h
    by_cases z : w = w'
    · omega
    · rw [if_neg z] at h
      have := of_decide_eq_false h
      omega
def ElAt (H : Hp) (el : El) : Prop := ∀ e ∈ el, H e.2.1 = some (.tup [.int e.2.2.1, .int (e.2.2.2 : Nat)])
section
variable {P : Program} {w : World} {K : PySem.W.Frag} {mg : Str → Option Value} {base : Heap}
theorem walkI {d : Addr} {o : Obj} {β : Type} {g : β → V} {l : List (Str × β)} : Walk (Iti d o (kS g l)) l.length (fun H => H d = some (.frz o (.dK (kS g l)))) (YPair (fun i => (l[i]?).map fun e => .str e.1) (fun i => (l[i]?).map fun e => g e.2)) := by
  have w := walk_items (d := d) (o := o) (kvs := kS g l)
  rw [show (kS g l).length = l.length from List.length_map _] at w
  refine w.mono (fun _ h => h) fun i H x H' hi _ y => ?_
  obtain ⟨T, x', y', h1, h2, h3, h4, h5⟩ := y
  refine ⟨T, x', y', h1, h2, h3, ?_, ?_⟩
  · show (l[i]?).map _ = some x'
    rw [← h4]
    show _ = ((kS g l)[i]?).map _
    unfold kS
    rw [List.getElem?_map, Option.map_map]; rfl
  · show (l[i]?).map _ = some y'
    rw [← h5]
    show _ = ((kS g l)[i]?).map _
    unfold kS
    rw [List.getElem?_map, Option.map_map]; rfl
/-- a row of the costs -/
theorem CostsAt.row {H : Hp} {F : Addr} {rows : Rows} (h : CostsAt H F rows) {m : Nat} {r : List (Str × Int)} (e : rows[m]? = some r) : ∃ (cs : List (Addr × List (Str × Int))) (d : Addr), H F = some (.lst (cs.map fun e => V.ref e.1)) ∧ atI (cs.map fun e => V.ref e.1) (m : Int) = some (.ref d) ∧ FDf V.int H d r := by
  obtain ⟨cs, h1, h2, h3⟩ := h.ex
  rw [← h2, List.getElem?_map] at e
  obtain ⟨x, hx, ex⟩ := Option.map_eq_some_iff.mp e
  refine ⟨cs, x.1, h1, ?_, ?_⟩
  · rw [atI_n, List.getElem?_map, hx]; rfl
  · rw [← ex]; exact h3 x (List.mem_of_getElem? hx)
def sp_Market_extra (K : PySem.W.Frag) : Sp := fun vs H Q _ => ∃ (m F r gd : Addr) (p : Str) (gl : List Str) (rows : Rows) (U : List Str), vs = [.ref m, .str p] ∧ MktAt K H m F r gd ∧ H gd = some (.dK (gkv gl)) ∧ gl.length ≤ 60 ∧ CostsAt H F rows ∧ RowsOk rows U ∧ (∀ (m : Nat) (p : Str), gl[m]? = some p → ∃ a, costOf rows m p = some a) ∧
  ∀ (q : Addr) (H' : Hp) (el : El), H q = none → Sub H H' → FDf elV H' q el → ElAt H' el → ExOk (costOf rows) gl p (fun _ _ => True) el → Q (.ref q) H'
abbrev n_Market_extra : List Str := ["self", "place", "found", "user", "other", "cost", "offer"]
theorem sc_Market_extra : FnScope n_Market_extra ["self", "place"] (defScope mMarket_extra) := ⟨rfl, rfl, rfl, by decide +kernel, rfl, by decide +kernel, by decide +kernel⟩
theorem ok_Market_extra (T : Txt K mg) : Met P w K mg base 2 (ga K "Market") "extra" (sp_Market_extra K) [] := by
  refine met_of T.f_Market_extra T.c_Market T.m_Market_extra sc_Market_extra (fun vs H Q E h => ?_) (fun _ _ _ _ _ _ us hl => match us, hl with | [_, _], _ => rfl) (fun f cdv A outer s H vs Q E hr h => ?_)
  · obtain ⟨m, F, r, gd, p, gl, rows, U, rfl, _⟩ := h
    rfl
  · obtain ⟨m, F, r, gd, p, gl, rows, U, rfl, hm, hg, h60, hc, R, may, k⟩ := h
    have hu := hu_of hr
    refine ⟨_, (pss_cons (ps_set (i := 2) sc_Market_extra.nd rfl (.inl rfl) pe_dnewK)
  (pss_cons (ps_for PassesOwn.never rfl (pi_list (pe_mt (ok_Market_users_at T) hr (by decide) (pv 0) (pa_cons (pv 1) pa_nil))) (pg_name (i := 3) sc_Market_extra.nd rfl (.inl rfl))
  (pss_one (ps_for PassesOwn.never rfl (pi_items (pe_ix ix_list (pe_fld (pv 0) rfl) (pv 3) (fun _ _ => rfl))) (pg_tup (n := 2) rfl (pgs_cons (pg_name (i := 4) sc_Market_extra.nd rfl (.inl rfl)) (pgs_cons (pg_name (i := 5) sc_Market_extra.nd rfl (.inl rfl)) pgs_nil)))
  (pss_cons (ps_set (i := 6) sc_Market_extra.nd rfl (.inl rfl) (pe_tup (pa_cons (pe_op op_sub (pv 5) (pe_dget hu (pe_ix ix_list (pe_fld (pv 0) rfl) (pv 3) (fun _ _ => rfl)) (pv 1) (fun _ _ => rfl))) (pa_cons (pv 3) pa_nil))))
  (pss_one (ps_if (PW.pt (pw_and (pt_cmpR op_ne (pv 4) (pv 1) (nomark _)) (pw_and1 (PW.pt (pw_or (pt_cmp (pc_dnotin hu (pv 4) (pv 2))) (pw_or1 (pt_cmpR (op_ltT hr.units0) (pv 6) (pe_dget hu (pv 2) (pv 4) (fun _ _ => rfl)) (nomark _)))))))) (pss_one (ps_dput hu (pv 2) (pv 4) (pv 6) rfl)) pss_nil))))))
  (pss_one (ps_ret (pe_freeze (pv 2)))))), ?_⟩
    refine fun C nC => ?_
    have s0 : Sub H (upd H C (.dK [])) := Sub.new nC
    obtain ⟨dxm, em⟩ := s0.mkt hm
    refine ⟨_, rfl, m, dxm, _, rfl, em, rfl, _, rfl, ?_⟩
    refine ⟨m, F, r, gd, p, gl, rfl, ⟨dxm, em⟩, s0 _ _ hg, by omega, fun q H1 n1 s1 e1 => ⟨q, rfl, ⟨_, SqL.of e1⟩, ?_⟩⟩
    have qC : q ≠ C := (ne_of_none upd_same n1).symm
    have s01 := s0.trans s1
    refine for_it (walkL (K := K) (a := q) (data := usersAt gl p) (f := fun i : Nat => .int (i : Nat))) (fun i σ H' => ∃ o3 o4 o5 o6 el, σ = [some (.ref m), some (.str p), some (.ref C), o3, o4, o5, o6] ∧ Sub H H' ∧ SubX C H1 H' ∧ H' C = some (.dK (kS elV el)) ∧ ElAt H' el ∧ ExOk (costOf rows) gl p (fun u _ => u ∈ (usersAt gl p).take i) el)
      ⟨_, _, _, _, [], rfl, s01, (Sub.refl _).x, s1 _ _ upd_same, fun e he => absurd he (by simp), ⟨by simp, fun e he => absurd he (by simp), fun m p w hd => absurd hd (by simp)⟩⟩ (fun i σ H' _ ⟨_, _, _, _, _, _, _, s, _⟩ => SqL.of (s _ _ qC e1)) ?_ (fun σ H' ⟨_, _, _, _, el, hσ, sH, sx, eC, ea, ex⟩ => ?_)
    rotate_left
    · subst hσ
      refine ⟨_, rfl, C, _, rfl, eC, True.intro, fun o => ?_⟩
      rw [List.take_length] at ex
      refine k C _ el nC (sH.mut nC) ⟨o, upd_same⟩ (fun e he => ?_) (ex.mono fun m p w _ e => mem_usersAt.mpr e.1)
      rw [upd_ne fun z => by rw [← z, ea e he] at eC; cases eC]
      exact ea e he
    rintro i x σ H2 H3 hi ⟨o3, o4, o5, o6, el, rfl, sH, sx, eC, ea, ex⟩ ⟨ez, ey⟩
    subst ez
    have : x = V.int ((usersAt gl p)[i] : Nat) := ey.trans (get_D (f := fun i : Nat => V.int (i : Nat)) hi)
    subst this
    have hum : gl[(usersAt gl p)[i]]? = some p := mem_usersAt.mp (List.getElem_mem hi)
    have tk := take_get hi
    generalize (usersAt gl p)[i] = u at hum tk ⊢
    obtain ⟨b, hb⟩ := may u p hum
    obtain ⟨row, hrow, hbr⟩ := costOf_some hb
    obtain ⟨cs, d, ec1, ec2, ec3⟩ := (sH.costs hc).row hrow
    obtain ⟨od, ed⟩ := id ec3
    obtain ⟨dx2, em2⟩ := sH.mkt hm
    have Cd : d ≠ C := fun z => by rw [z, eC] at ed; cases ed
    refine ⟨_, rfl, m, _, dx2, _, _, rfl, em2, T.c_Market, T.a_Market_costs, rfl, _, rfl, F, _, _, _, rfl, rfl, SqL.of ec1, ec2, ?_⟩
    refine ⟨d, od, _, rfl, ed, ?_⟩
    have hrm : row ∈ rows := List.mem_of_getElem? hrow
    refine for_it (walkI (g := V.int) (l := row)) (fun j σ H' => ∃ o4 o5 o6 el, σ = [some (.ref m), some (.str p), some (.ref C), some (.int (u : Nat)), o4, o5, o6] ∧ Sub H H' ∧ SubX C H3 H' ∧ H' C = some (.dK (kS elV el)) ∧ ElAt H' el ∧ ExOk (costOf rows) gl p (fun v y => v ∈ (usersAt gl p).take i ∨ (v = u ∧ y ∈ (row.take j).map (·.1))) el)
      ⟨_, _, _, el, rfl, sH, (Sub.refl _).x, eC, ea, ex.mono fun m p w hd _ => hd.elim id fun h => absurd h.2 (by simp)⟩ (fun j σ H' _ ⟨_, _, _, _, _, _, s, _⟩ => s _ _ Cd ed) ?_ (fun σ H' ⟨_, _, _, el, hσ, sH', sx', eC, ea, ex⟩ => ?_)
    rotate_left
    · subst hσ
      refine ⟨_, _, _, _, el, rfl, sH', sx.trans sx', eC, ea, ex.mono fun v y w hd e => ?_⟩
      rw [tk] at hd
      rcases List.mem_append.mp hd with z | z
      · exact .inl z
      · have : v = u := by simpa using z
        subst this
        obtain ⟨_, _, a, _, h1, _⟩ := e
        obtain ⟨row', h3, h4⟩ := costOf_some h1
        rw [hrow] at h3
        cases h3
        rw [List.take_length]
        exact .inr ⟨rfl, List.mem_map.mpr ⟨_, aGet_mem h4, rfl⟩⟩
    rintro j x σ H4 H5 hj ⟨o4, o5, o6, el, rfl, sH', sx', eC, ea, ex⟩ ⟨t, x1, x2, rfl, hn1, rfl, eu, ev⟩
    replace eu : (row[j]?).map (fun e : Str × Int => V.str e.1) = some x1 := eu
    replace ev : (row[j]?).map (fun e : Str × Int => V.int e.2) = some x2 := ev
    rw [List.getElem?_eq_getElem hj] at eu ev
    have tkj := take_get hj
    have hmj : row[j] ∈ row := List.getElem_mem hj
    cases eu
    cases ev
    generalize row[j] = oc at hmj tkj ⊢
    obtain ⟨o, cost⟩ := oc
    have hco : aGet row o = some cost := aGet_in (R.nd row hrm) hmj
    have hcost : costOf rows u o = some cost := by unfold costOf; rw [hrow]; exact hco
    have s45 : Sub H4 (upd H4 t (.tup [.str o, .int cost])) := Sub.new hn1
    generalize hH5 : upd H4 t (.tup [.str o, .int cost]) = H5 at s45 ⊢
    refine gPair (by rw [← hH5]; exact upd_same) ?_
    have sH5 := sH'.trans s45
    obtain ⟨cs', d', gc1, gc2, gc3⟩ := (sH5.costs hc).row hrow
    obtain ⟨dx3, em3⟩ := sH5.mkt hm
    -- the offer
    refine ⟨_, rfl, _, rfl, m, _, dx3, _, _, rfl, em3, T.c_Market, T.a_Market_costs, rfl, _, rfl, F, _, _, _, rfl, rfl, SqL.of gc1, gc2, ?_⟩
    refine ⟨_, rfl, d', .int b, rfl, (by have := dget_r gc3.rd p; rwa [hbr] at this), _, _, rfl, rfl, _, rfl, sz (by simp), fun f n6 => ?_⟩
    have s56 : Sub H5 (upd H5 f (.tup [.int (cost - b), .int (u : Nat)])) := Sub.new n6
    have e6 : (upd H5 f (.tup [.int (cost - b), .int (u : Nat)])) f = some (.tup [.int (cost - b), .int (u : Nat)]) := upd_same
    generalize hH6 : upd H5 f (.tup [.int (cost - b), .int (u : Nat)]) = H6 at s56 e6 ⊢
    have sH6 := sH5.trans s56
    have s46 := s45.trans s56
    have eC6 := s46 _ _ eC
    have ea6 : ElAt H6 el := fun e he => s46 _ _ (ea e he)
    have dput : ∀ {el : El}, H6 C = some (.dK (kS elV el)) → (∀ w, Edge (costOf rows) gl p o w u → w = cost - b) := fun _ w e => by
      obtain ⟨_, _, a1, b1, h1, h2, h3⟩ := e
      rw [hcost] at h1; rw [hb] at h2
      cases h1; cases h2
      exact h3
    have edw := dput eC6
    have stay : ∀ (σ' : L2.St), σ' = [some (.ref m), some (.str p), some (.ref C), some (.int (u : Nat)), some (.str o), some (.int cost), some (.ref f)] → (∀ w, Edge (costOf rows) gl p o w u → ∃ e, aGet el o = some e ∧ e.2.1 ≤ w) →
        ∃ o4 o5 o6 el, σ' = [some (.ref m), some (.str p), some (.ref C), some (.int (u : Nat)), o4, o5, o6] ∧ Sub H H6 ∧ SubX C H3 H6 ∧ H6 C = some (.dK (kS elV el)) ∧ ElAt H6 el ∧ ExOk (costOf rows) gl p (fun v y => v ∈ (usersAt gl p).take i ∨ (v = u ∧ y ∈ (row.take (j + 1)).map (·.1))) el := fun σ' hσ hk => by
      refine ⟨_, _, _, el, hσ, sH6, sx'.trans s46.x, eC6, ea6, (ex.skip hk).mono fun v y w hd _ => ?_⟩
      rcases hd with hd | ⟨h1, h2⟩
      · exact .inl (.inl hd)
      · rw [tkj, List.map_append] at h2
        rcases List.mem_append.mp h2 with z | z
        · exact .inl (.inr ⟨h1, z⟩)
        · exact .inr ⟨h1, by simpa using z⟩
    have put : ∀ (σ' : L2.St), σ' = [some (.ref m), some (.str p), some (.ref C), some (.int (u : Nat)), some (.str o), some (.int cost), some (.ref f)] → o ≠ p → (∀ e, aGet el o = some e → cost - b ≤ e.2.1) →
        ∃ o4 o5 o6 el', σ' = [some (.ref m), some (.str p), some (.ref C), some (.int (u : Nat)), o4, o5, o6] ∧ Sub H (upd H6 C (.dK (kS elV (aPut el o (f, cost - b, u))))) ∧ SubX C H3 (upd H6 C (.dK (kS elV (aPut el o (f, cost - b, u))))) ∧ (upd H6 C (.dK (kS elV (aPut el o (f, cost - b, u))))) C = some (.dK (kS elV el')) ∧ ElAt (upd H6 C (.dK (kS elV (aPut el o (f, cost - b, u))))) el' ∧ ExOk (costOf rows) gl p (fun v y => v ∈ (usersAt gl p).take i ∨ (v = u ∧ y ∈ (row.take (j + 1)).map (·.1))) el' := fun σ' hσ hne hk => by
      have fC : f ≠ C := fun z => by rw [z, eC6] at e6; cases e6
      refine ⟨_, _, _, _, hσ, sH6.mut nC, (sx'.trans s46.x).put, upd_same, fun e he => ?_, (ex.put (a := f) ⟨hum, hne, cost, b, hcost, hb, rfl⟩ hk).mono fun v y w hd _ => ?_⟩
      · rcases aPut_mem he with z | ⟨z, _⟩
        · subst z
          exact (upd_ne fC).trans e6
        · rw [upd_ne fun y => by rw [← y, ea6 e z] at eC6; cases eC6]
          exact ea6 e z
      · rcases hd with hd | ⟨h1, h2⟩
        · exact .inl (.inl hd)
        · rw [tkj, List.map_append] at h2
          rcases List.mem_append.mp h2 with z | z
          · exact .inl (.inr ⟨h1, z⟩)
          · exact .inr ⟨h1, by simpa using z⟩
    have hlen : el.length < 100000 := by
      have h1 := sub_len (A := el.map (·.1)) (B := U) ex.nd fun x hx => by
        obtain ⟨e, he, rfl⟩ := List.mem_map.mp hx
        obtain ⟨_, _, a1, _, h1, _⟩ := ex.edge e he
        exact R.inU h1
      rw [List.length_map] at h1
      have := R.ulen
      omega
    refine ⟨_, rfl, _, rfl, rfl, _, rfl, ?_⟩
    by_cases hop : o = p
    · rw [decide_eq_true (congrArg V.str hop)]
      refine rd_ite (fun z => absurd z (by decide)) (fun _ => ?_)
      exact stay _ rfl fun w e => absurd hop e.2.1
    · rw [decide_eq_false fun z => hop (V.str.inj z)]
      refine iteT ?_
      refine ⟨_, rfl, _, rfl, C, _, rfl, dget_d eC6 o, _, rfl, ?_⟩
      cases hgo : aGet el o with
      | none => exact ⟨_, rfl, _, rfl, _, rfl, C, _, rfl, dput_d (f := elV) eC6 o (f, cost - b, u) hlen, put _ rfl hop fun e z => by rw [hgo] at z; cases z⟩
      | some e =>
        have hel := ea6 _ (aGet_mem hgo)
        refine rd_ite (fun z => nomatch z) (fun _ => ?_)
        refine ⟨_, rfl, _, rfl, _, rfl, C, .ref e.1, rfl, (by have := dget_d eC6 o; rwa [hgo] at this), f, e.1, [cost - b, (u : Int)], [e.2.1, (e.2.2 : Int)], rfl, rfl, SqT.of e6, SqT.of hel, _, rfl, ?_⟩
        refine rd_ite (fun hl => ?_) (fun hl => ?_)
        · exact ⟨_, rfl, _, rfl, _, rfl, C, _, rfl, dput_d (f := elV) eC6 o (f, cost - b, u) hlen, put _ rfl hop fun e' z => by
            rw [hgo] at z; cases z
            exact lex2.1 hl⟩
        · exact stay _ rfl fun w ew => ⟨e, hgo, by rw [edw w ew]; exact lex2.2 hl⟩
end
end K31
set_option Elab.async false
set_option linter.all false
set_option maxRecDepth 100000
set_option maxHeartbeats 4000000
namespace K31
open PySem PySem.Spec PyProof.Rows L2 He
open C8 (Cal Met Mak pe_c pe_mk pe_mt pe_mt0 pe_gc)
/-! ### the ways: what holds while they are made -/
structure WInv (rows : Rows) (gl : List Str) (u : Nat) (l : WL Str) : Prop where
  nd : (l.map (·.1)).Nodup
  ways : Ways (costOf rows) gl u (look l)
  hi : ∀ e ∈ l, e.2.1 ≤ 24 * (l.length : Int)
theorem Ways.inU {rows : Rows} {U : List Str} {gl : List Str} {u : Nat} {b : Best Str} (R : RowsOk rows U) (W : Ways (costOf rows) gl u b) {p : Str} {d : Int} {s : Option (Str × Nat)} (h : b p = some (d, s)) : p ∈ U := by
  cases s with
  | none => exact R.inU (W.root p d h)
  | some x =>
    obtain ⟨q, m⟩ := x
    obtain ⟨_, _, _, _, ⟨_, _, a, _, h1, _⟩, _⟩ := W.back p d q m h
    exact R.inU h1
theorem look_key {l : WL Str} {p : Str} : p ∈ l.map (·.1) ↔ ∃ d s, look l p = some (d, s) := by
  constructor
  · intro h
    obtain ⟨v, e⟩ := aGet_some h
    exact ⟨v.1, v.2, e⟩
  · rintro ⟨d, s, e⟩
    exact List.mem_map.mpr ⟨_, look_mem e, rfl⟩
theorem WInv.len {rows : Rows} {U : List Str} {gl : List Str} {u : Nat} {l : WL Str} (R : RowsOk rows U) (I : WInv rows gl u l) : l.length ≤ 13 := by
  have h := sub_len (A := l.map (·.1)) (B := U) I.nd fun x hx => by
    obtain ⟨d, s, e⟩ := look_key.mp hx
    exact I.ways.inU R e
  rw [List.length_map] at h
  exact Nat.le_trans h R.ulen
theorem WInv.put {rows : Rows} {U : List Str} {gl : List Str} {u : Nat} {l : WL Str} {π : Str → Int} {q p : Str} {w dq : Int} {m : Nat} {sq : Option (Str × Nat)} (R : RowsOk rows U) (I : WInv rows gl u l) (P : Pot (costOf rows) gl π) (hq : look l q = some (dq, sq)) (E : Edge (costOf rows) gl q p w m)
    (less : ∀ d s, look l p = some (d, s) → dq + w < d) : WInv rows gl u (putL l p (dq + w, some (q, m))) ∧ wmeas 13 312 (putL l p (dq + w, some (q, m))) < wmeas 13 312 l := by
  have W' := I.ways.relax P hq E less
  have hdq := I.hi _ (look_mem hq)
  have hdq : dq ≤ 24 * (l.length : Int) := hdq
  have hw : w ≤ 24 := by
    obtain ⟨_, _, a, b, h1, h2, rfl⟩ := E
    have := R.bd h1
    have := R.bd h2
    omega
  have hl13 := I.len R
  have nd' : ((putL l p (dq + w, some (q, m))).map (·.1)).Nodup := by
    rw [putL_keys]
    split
    · rename_i hn
      refine List.nodup_append.mpr ⟨I.nd, by simp, fun a ha b hb e => ?_⟩
      have : b = p := by simpa using hb
      rw [e, this] at ha
      obtain ⟨d, s, e2⟩ := look_key.mp ha
      rw [hn] at e2; cases e2
    · exact I.nd
  have W'' : Ways (costOf rows) gl u (look (putL l p (dq + w, some (q, m)))) := by rw [look_putL]; exact W'
  have hlen' : (putL l p (dq + w, some (q, m))).length ≤ 13 := by
    have h := sub_len (A := (putL l p (dq + w, some (q, m))).map (·.1)) (B := U) nd' fun x hx => by
      obtain ⟨d, s, e⟩ := look_key.mp hx
      exact W''.inU R e
    rw [List.length_map] at h
    exact Nat.le_trans h R.ulen
  have hnew : dq + w ≤ 24 * ((putL l p (dq + w, some (q, m))).length : Int) := by
    rw [putL_len]
    split
    · push_cast; omega
    · rename_i hs
      cases h : look l p with
      | none => exact absurd h hs
      | some x =>
        have h1 := less x.1 x.2 h
        have h2 : x.1 ≤ 24 * (l.length : Int) := I.hi _ (look_mem h)
        omega
  have hge : l.length ≤ (putL l p (dq + w, some (q, m))).length := by
    rw [putL_len]; split <;> omega
  refine ⟨⟨nd', W'', fun e he => ?_⟩, ?_⟩
  · unfold putL at he
    split at he
    · obtain ⟨x, hx, ex⟩ := List.mem_map.mp he
      by_cases z : x.1 = p
      · rw [if_pos z] at ex
        rw [← ex]
        exact hnew
      · rw [if_neg z] at ex
        rw [← ex]
        have := I.hi x hx
        omega
    · rcases List.mem_append.mp he with z | z
      · have := I.hi e z
        omega
      · have : e = (p, (dq + w, some (q, m))) := by simpa using z
        rw [this]
        exact hnew
  · refine wmeas_put I.nd less ?_ (by push_cast; omega) (fun hn => ?_)
    · have hp : look (putL l p (dq + w, some (q, m))) p = some (dq + w, some (q, m)) := by rw [look_putL]; exact upB_same
      obtain ⟨ch, hc⟩ := W''.chain _ _ _ hp
      have h1 := W''.low (B := 24) (fun m p a h => R.bd h) hc _ _ hp
      have h2 := sub_len hc.nodup fun x hx => by
        obtain ⟨d, s, e⟩ := hc.mem hx
        exact W''.inU R e
      have := R.ulen
      push_cast
      omega
    · rw [putL_len, if_pos hn] at hlen'
      omega
theorem look_row {row : List (Str × Int)} {p : Str} : look (row.map fun e => (e.1, (e.2, (none : Option (Str × Nat))))) p = (aGet row p).map fun a => (a, none) := by
  show aGet (row.map fun e => (e.1, (e.2, (none : Option (Str × Nat))))) p = _
  rw [aGet_map fun a : Int => (a, (none : Option (Str × Nat)))]
theorem WInv.first {rows : Rows} {U : List Str} {gl : List Str} {u : Nat} {row : List (Str × Int)} (R : RowsOk rows U) (h : rows[u]? = some row) : WInv rows gl u (row.map fun e => (e.1, (e.2, none))) := by
  have hm := List.mem_of_getElem? h
  refine ⟨by rw [List.map_map]; exact R.nd row hm, ?_, fun e he => ?_⟩
  · have : look (row.map fun e => (e.1, (e.2, (none : Option (Str × Nat))))) = fun p => (costOf rows u p).map fun a => (a, none) := by
      funext p
      rw [look_row]
      unfold costOf
      rw [h]
      rfl
    rw [this]
    exact Ways.first
  · obtain ⟨x, hx, rfl⟩ := List.mem_map.mp he
    have h1 := (R.cost row hm x hx).2
    have h2 := List.length_pos_of_mem hx
    rw [List.length_map]
    show x.2 ≤ _
    omega

/-! ### .. in the heap -/
abbrev BL := List (Str × (Addr × Int × Option (Str × Nat)))
def blV : Addr × Int × Option (Str × Nat) → V := fun e => .ref e.1
def StepV (H : Hp) (sv : V) : Option (Str × Nat) → Prop
  | none => sv = .non
  | some (q, m) => ∃ b, sv = .ref b ∧ H b = some (.tup [.str q, .int (m : Nat)])
def BestAt (H : Hp) (bl : BL) : Prop := ∀ e ∈ bl, ∃ sv, H e.2.1 = some (.tup [.int e.2.2.1, sv]) ∧ StepV H sv e.2.2.2
def wlOf (bl : BL) : WL Str := bl.map fun e => (e.1, e.2.2)
theorem wl_look {bl : BL} {k : Str} : look (wlOf bl) k = (aGet bl k).map (·.2) := by
  show aGet (bl.map fun e => (e.1, e.2.2)) k = _
  rw [aGet_map fun e : Addr × Int × Option (Str × Nat) => e.2]
theorem wl_put {bl : BL} {k : Str} {a : Addr} {d : Int} {s : Option (Str × Nat)} : wlOf (aPut bl k (a, d, s)) = putL (wlOf bl) k (d, s) := by
  unfold wlOf aPut putL
  rw [List.any_map]
  have e : ((fun x : Str × (Int × Option (Str × Nat)) => decide (x.1 = k)) ∘ fun e : Str × (Addr × Int × Option (Str × Nat)) => (e.1, e.2.2)) = fun e => decide (e.1 = k) := rfl
  rw [e]
  by_cases h : bl.any (fun e => decide (e.1 = k)) = true
  · rw [if_pos h, if_pos h, List.map_map, List.map_map]
    refine List.map_congr_left fun x _ => ?_
    show ((if x.1 = k then (x.1, (a, d, s)) else x).1, (if x.1 = k then (x.1, (a, d, s)) else x).2.2) = if x.1 = k then (k, (d, s)) else (x.1, x.2.2)
    by_cases z : x.1 = k <;> simp [z]
  · rw [if_neg h, if_neg h, List.map_append]
    rfl
theorem wl_keys {bl : BL} : (wlOf bl).map (·.1) = bl.map (·.1) := by unfold wlOf; rw [List.map_map]; rfl
theorem SubX.best {C : Addr} {H H' : Hp} {bl : BL} {kv : List (Key × V)} (s : SubX C H H') (hC : H C = some (.dK kv)) (h : BestAt H bl) : BestAt H' bl := fun e he => by
  obtain ⟨sv, h1, h2⟩ := h e he
  refine ⟨sv, s _ _ (fun z => by rw [z, hC] at h1; cases h1) h1, ?_⟩
  cases hs : e.2.2.2 with
  | none => rw [hs] at h2; exact h2
  | some x =>
    obtain ⟨q, m⟩ := x
    rw [hs] at h2
    obtain ⟨b, e1, e2⟩ := h2
    exact ⟨b, e1, s _ _ (fun z => by rw [z, hC] at e2; cases e2) e2⟩
theorem Sub.best {H H' : Hp} {bl : BL} (s : Sub H H') (h : BestAt H bl) : BestAt H' bl := fun e he => by
  obtain ⟨sv, h1, h2⟩ := h e he
  refine ⟨sv, s _ _ h1, ?_⟩
  cases hs : e.2.2.2 with
  | none => rw [hs] at h2; exact h2
  | some x =>
    obtain ⟨q, m⟩ := x
    rw [hs] at h2
    obtain ⟨b, e1, e2⟩ := h2
    exact ⟨b, e1, s _ _ e2⟩
section
variable {P : Program} {w : World} {K : PySem.W.Frag} {mg : Str → Option Value} {base : Heap}
def sp_Market_ways (K : PySem.W.Frag) : Sp := fun vs H Q _ => ∃ (m F r gd : Addr) (gl : List Str) (rows : Rows) (U : List Str) (room : Str → Nat), vs = [.ref m, .int (gl.length : Nat)] ∧ MktAt K H m F r gd ∧ H gd = some (.dK (gkv gl)) ∧ gl.length < rows.length ∧ CostsAt H F rows ∧ RowsOk rows U ∧ Good (costOf rows) room gl ∧
  ∀ (q : Addr) (H' : Hp) (bl : BL), H q = none → Sub H H' → FDf blV H' q bl → BestAt H' bl → WInv rows gl gl.length (wlOf bl) → Stable (costOf rows) gl (look (wlOf bl)) → Q (.ref q) H'
abbrev n_Market_ways : List Str := ["self", "user", "best", "is_stable", "place", "other", "cost", "mover", "whole"]
theorem sc_Market_ways : FnScope n_Market_ways ["self", "user"] (defScope mMarket_ways) := ⟨rfl, rfl, rfl, by decide +kernel, rfl, by decide +kernel, by decide +kernel⟩
theorem ok_Market_ways (T : Txt K mg) : Met P w K mg base 3 (ga K "Market") "ways" (sp_Market_ways K) [] := by
  refine met_of T.f_Market_ways T.c_Market T.m_Market_ways sc_Market_ways (fun vs H Q E h => ?_) (fun _ _ _ _ _ _ us hl => match us, hl with | [_, _], _ => rfl) (fun f cdv A outer s H vs Q E hr h => ?_)
  · obtain ⟨m, F, r, gd, gl, rows, U, room, rfl, _⟩ := h
    rfl
  · obtain ⟨m, F, r, gd, gl, rows, U, room, rfl, hm, hg, hlt, hc, R, G, k⟩ := h
    have hu := hu_of hr
    have hr60 := R.len
    obtain ⟨π, Pt⟩ := G.pot
    refine ⟨_, (pss_cons (ps_setDc (i := 2) (own := [("place", 4), ("cost", 6)]) (g := (gTup K 2 (gCons (gName 4) (gCons (gName 6) gNil)))) (tt := tYes) (tk := (tVar 4)) (tv := (tTup (tCons (tVar 6) (tCons (tC .non) tNil)))) rfl sc_Market_ways.nd rfl rfl (sw_trueD rfl rfl rfl (by decide +kernel)) (pi_items (pe_ix ix_list (pe_fld (pv 0) rfl) (pv 1) (fun _ _ => rfl))) (blkOk_by (N := n_Market_ways) (sc := defScope mMarket_ways) (by decide +kernel)) (fun _ _ _ _ _ => (pg_tup (n := 2) rfl (pgs_cons (pg_name (i := 4) sc_Market_ways.nd rfl (.inl rfl)) (pgs_cons (pg_name (i := 6) sc_Market_ways.nd rfl (.inl rfl)) pgs_nil)))) (fun _ _ _ _ _ => pts_nil) (fun _ _ _ _ _ => (pv 4)) (fun _ _ _ _ _ => (pe_tup (pa_cons (pv 6) (pa_cons pe_non pa_nil)))))
  (pss_cons (ps_set (i := 3) sc_Market_ways.nd rfl (.inl rfl) pe_bl)
  (pss_cons (ps_while PassesOwn.never (pt_not (pt_val (pv 3)))
  (pss_cons (ps_set (i := 3) sc_Market_ways.nd rfl (.inl rfl) pe_bl)
  (pss_one (ps_for PassesOwn.never rfl (pi_list (pe_callTy (c_listD rfl) rfl T.n_list (by decide +kernel) (pa_cons (pv 2) pa_nil))) (pg_name (i := 4) sc_Market_ways.nd rfl (.inl rfl))
  (pss_one (ps_for PassesOwn.never rfl (pi_items (pe_mt (ok_Market_extra T) hr (by decide) (pv 0) (pa_cons (pv 4) pa_nil))) (pg_tup (n := 2) rfl (pgs_cons (pg_name (i := 5) sc_Market_ways.nd rfl (.inl rfl)) (pgs_cons (pg_tup (n := 2) rfl (pgs_cons (pg_name (i := 6) sc_Market_ways.nd rfl (.inl rfl)) (pgs_cons (pg_name (i := 7) sc_Market_ways.nd rfl (.inl rfl)) pgs_nil))) pgs_nil)))
  (pss_cons (ps_set (i := 8) sc_Market_ways.nd rfl (.inl rfl) (pe_op op_add (pe_ix ix_tup (pe_dget hu (pv 2) (pv 4) (fun _ _ => rfl)) pe_int (fun _ _ => rfl)) (pv 6)))
  (pss_one (ps_if (PW.pt (pw_or (pt_cmp (pc_dnotin hu (pv 5) (pv 2))) (pw_or1 (pt_cmpR op_lt (pv 8) (pe_ix ix_tup (pe_dget hu (pv 2) (pv 5) (fun _ _ => rfl)) pe_int (fun _ _ => rfl)) (nomark _))))) (pss_cons (ps_dput hu (pv 2) (pv 5) (pe_tup (pa_cons (pv 8) (pa_cons (pe_tup (pa_cons (pv 4) (pa_cons (pv 7) pa_nil))) pa_nil))) rfl)
  (pss_one (ps_set (i := 3) sc_Market_ways.nd rfl (.inl rfl) pe_bl))) pss_nil)))))))))
  (pss_one (ps_ret (pe_freeze (pv 2))))))), ?_⟩
    generalize hun : gl.length = u at hlt k ⊢
    have hru : rows[u]? = some rows[u] := List.getElem?_eq_getElem hlt
    generalize rows[u] = row at hru
    have hrm : row ∈ rows := List.mem_of_getElem? hru
    obtain ⟨dxm, em⟩ := id hm
    obtain ⟨cs, d, ec1, ec2, ec3⟩ := hc.row hru
    obtain ⟨od, ed⟩ := id ec3
    refine ⟨_, rfl, m, _, dxm, _, _, rfl, em, T.c_Market, T.a_Market_costs, rfl, _, rfl, F, _, _, _, rfl, rfl, SqL.of ec1, ec2, ?_⟩
    refine ⟨d, od, _, rfl, ed, fun C nC => ?_⟩
    have hr13 : row.length ≤ 13 := by
      have h := sub_len (A := row.map (·.1)) (B := U) (R.nd row hrm) fun x hx => by
        obtain ⟨e, he, rfl⟩ := List.mem_map.mp hx
        exact R.sub row hrm e he
      rw [List.length_map] at h
      exact Nat.le_trans h R.ulen
    refine dc_it (walkI (g := V.int) (l := row)) (fun i H' => ∃ bl : BL, Sub H H' ∧ H' C = some (.dK (kS blV bl)) ∧ BestAt H' bl ∧ wlOf bl = (row.take i).map fun e => (e.1, (e.2, none))) ⟨[], Sub.new nC, upd_same, fun e he => absurd he (by simp), rfl⟩ (fun i H' _ ⟨_, s, _⟩ => s _ _ ed) ?_ (fun H1 ⟨bl, s1, eC, hb, hwl⟩ => ?_)
    · rintro i x H1 H2 hi ⟨bl, s1, eC, hb, hwl⟩ ⟨t, x1, x2, rfl, hn1, rfl, eu, ev⟩
      replace eu : (row[i]?).map (fun e : Str × Int => V.str e.1) = some x1 := eu
      replace ev : (row[i]?).map (fun e : Str × Int => V.int e.2) = some x2 := ev
      rw [List.getElem?_eq_getElem hi] at eu ev
      have tki := take_get hi
      have hn : row[i].1 ∉ (row.take i).map (·.1) := fun z => by
        have h1 := R.nd row hrm
        rw [← List.take_append_drop i row, List.drop_eq_getElem_cons hi, List.map_append, List.map_cons] at h1
        exact (List.nodup_append.mp h1).2.2 _ z _ (List.mem_cons_self ..) rfl
      cases eu
      cases ev
      generalize row[i] = oc at hn tki ⊢
      obtain ⟨o, cost⟩ := oc
      have s12 : Sub H1 (upd H1 t (.tup [.str o, .int cost])) := Sub.new hn1
      generalize hH2 : upd H1 t (.tup [.str o, .int cost]) = H2 at s12 ⊢
      refine gPair (by rw [← hH2]; exact upd_same) ⟨wipe_self2, ?_⟩
      refine ⟨_, rfl, _, rfl, sz (by simp), fun f n3 => ?_⟩
      have s23 : Sub H2 (upd H2 f (.tup [.int cost, .non])) := Sub.new n3
      have e3 : (upd H2 f (.tup [.int cost, .non])) f = some (.tup [.int cost, .non]) := upd_same
      generalize upd H2 f (.tup [.int cost, .non]) = H3 at s23 e3 ⊢
      have s13 := s12.trans s23
      have eC3 := s13 _ _ eC
      have hk : o ∉ bl.map (·.1) := fun z => hn (by rw [← wl_keys, hwl, List.map_map] at z; exact z)
      refine ⟨_, Sum.inr o, rfl, eC3, szl ?_, ?_⟩
      · rw [len_kS]
        have := congrArg List.length hwl
        unfold wlOf at this
        rw [List.length_map, List.length_map, List.length_take] at this
        omega
      · have fC : f ≠ C := fun z => by rw [z, eC3] at e3; cases e3
        refine ⟨aPut bl o (f, cost, none), (s1.trans s13).mut nC, ?_, ?_, ?_⟩
        · rw [upd_same]
          exact congrArg (fun z => some (HO.dK z)) (putK_kS blV bl o (f, cost, none))
        · rw [aPut_new hk]
          intro e he
          rcases List.mem_append.mp he with z | z
          · exact ((Sub.refl H3).x.put).best eC3 (s13.best hb) e z
          · have : e = (o, (f, cost, none)) := by simpa using z
            subst this
            exact ⟨.non, (upd_ne fC).trans e3, rfl⟩
        · rw [aPut_new hk]
          show List.map _ (bl ++ _) = _
          rw [List.map_append]
          show wlOf bl ++ _ = _
          rw [hwl, tki, List.map_append]
          rfl
    rw [List.take_length] at hwl
    have I0 : WInv rows gl u (wlOf bl) := by rw [hwl]; exact WInv.first R hru
    refine ⟨fun n σ H' => ∃ (st : Bool) (bl : BL) (o4 o5 o6 o7 o8 : Option V), σ = [some (.ref m), some (.int (u : Nat)), some (.ref C), some (.bl st), o4, o5, o6, o7, o8] ∧ Sub H H' ∧ H' C = some (.dK (kS blV bl)) ∧ BestAt H' bl ∧ WInv rows gl u (wlOf bl) ∧ (st = true → Stable (costOf rows) gl (look (wlOf bl))) ∧ n = if st = true then 0 else wmeas 13 312 (wlOf bl) + 1,
      ⟨_, false, bl, _, _, _, _, _, rfl, s1, eC, hb, I0, fun z => (nomatch z), rfl⟩, ?_⟩
    rintro n σ H2 ⟨st, bl, o4, o5, o6, o7, o8, rfl, s2, eC, hb, I, hst, rfl⟩
    refine ⟨_, rfl, st, rfl, ?_⟩
    cases st with
    | true =>
      refine rd_ite (fun z => nomatch z) (fun _ => ?_)
      refine ⟨_, rfl, C, _, rfl, eC, True.intro, fun o => ?_⟩
      exact k C _ bl nC (s2.mut nC) ⟨o, upd_same⟩ (((Sub.refl H2).x.put).best eC hb) I (hst rfl)
    | false =>
      refine rd_ite (fun _ => ?_) (fun z => nomatch z)
      refine ⟨fun σ H' => ∃ (st : Bool) (bl' : BL) (o4 o5 o6 o7 o8 : Option V), σ = [some (.ref m), some (.int (u : Nat)), some (.ref C), some (.bl st), o4, o5, o6, o7, o8] ∧ Sub H H' ∧ H' C = some (.dK (kS blV bl')) ∧ BestAt H' bl' ∧ WInv rows gl u (wlOf bl') ∧ (st = true → Stable (costOf rows) gl (look (wlOf bl'))) ∧ (st = false → wmeas 13 312 (wlOf bl') < wmeas 13 312 (wlOf bl)),
        fun σ' H' ⟨st, bl', o4, o5, o6, o7, o8, h1, h2, h3, h4, h5, h6, h7⟩ => ⟨_, ?_, st, bl', o4, o5, o6, o7, o8, h1, h2, h3, h4, h5, h6, rfl⟩, ?_⟩
      · cases st with
        | true => simp
        | false => have := h7 rfl; simp; omega
      refine ⟨_, rfl, C, _, rfl, .inl eC, fun q n3 => ⟨q, rfl, ⟨_, SqL.of upd_same⟩, ?_⟩⟩
      have s23 : Sub H2 (upd H2 q (.lst ((kS blV bl).map fun kv => kV kv.1))) := Sub.new n3
      have e3 : (upd H2 q (.lst ((kS blV bl).map fun kv => kV kv.1))) q = some (.lst ((bl.map (·.1)).map V.str)) := by
        rw [upd_same]; unfold kS; rw [List.map_map, List.map_map]; rfl
      generalize upd H2 q (.lst ((kS blV bl).map fun kv => kV kv.1)) = H3 at s23 e3 ⊢
      have s3 := s2.trans s23
      have eC3 := s23 _ _ eC
      have qC : q ≠ C := fun z => by rw [z, eC3] at e3; cases e3
      refine for_it (walkL (K := K) (a := q) (data := bl.map (·.1)) (f := V.str)) (fun i σ H' => ∃ (st : Bool) (bl' : BL) (o4 o5 o6 o7 o8 : Option V), σ = [some (.ref m), some (.int (u : Nat)), some (.ref C), some (.bl st), o4, o5, o6, o7, o8] ∧ Sub H H' ∧ SubX C H3 H' ∧ H' C = some (.dK (kS blV bl')) ∧ BestAt H' bl' ∧ WInv rows gl u (wlOf bl') ∧ (∀ x ∈ bl.map (·.1), x ∈ bl'.map (·.1)) ∧
          (st = true → bl' = bl ∧ ∀ p' ∈ (bl.map (·.1)).take i, ∀ dq sq, look (wlOf bl) p' = some (dq, sq) → ∀ p w m, Edge (costOf rows) gl p' p w m → ∃ d s, look (wlOf bl) p = some (d, s) ∧ d ≤ dq + w) ∧ (st = false → wmeas 13 312 (wlOf bl') < wmeas 13 312 (wlOf bl)))
        ⟨true, bl, _, _, _, _, _, rfl, s3, (Sub.refl _).x, eC3, s23.best hb, I, fun _ h => h, fun _ => ⟨rfl, fun p' h => absurd h (by simp)⟩, fun z => nomatch z⟩ (fun i σ H' _ ⟨_, _, _, _, _, _, _, _, _, s, _⟩ => SqL.of (s _ _ qC e3)) ?_ (fun σ H' ⟨st, bl', o4, o5, o6, o7, o8, hσ, h1, h2, h3, h4, h5, h6, h7, h8⟩ => ⟨st, bl', o4, o5, o6, o7, o8, hσ, h1, h3, h4, h5, fun z => ?_, h8⟩)
      rotate_left
      · obtain ⟨rfl, h⟩ := h7 z
        intro q' dq sq e
        rw [List.take_length] at h
        exact h q' (by rw [← wl_keys]; exact look_key.mpr ⟨_, _, e⟩) dq sq e
      rintro i x σ H4 H5 hi ⟨st, bl', o4, o5, o6, o7, o8, rfl, s4, sx4, eC4, hb4, I4, hk4, ht4, hf4⟩ ⟨ez, ey⟩
      subst ez
      have : x = V.str (bl.map (·.1))[i] := ey.trans (get_D hi)
      subst this
      have tki := take_get hi
      have hpm : (bl.map (·.1))[i] ∈ bl.map (·.1) := List.getElem_mem hi
      generalize (bl.map (·.1))[i] = pl at tki hpm ⊢
      obtain ⟨dx4, em4⟩ := s4.mkt hm
      refine ⟨_, rfl, m, dx4, _, rfl, em4, rfl, _, rfl, ?_⟩
      refine ⟨m, F, r, gd, pl, gl, rows, U, rfl, ⟨dx4, em4⟩, s4 _ _ hg, by omega, s4.costs hc, R, G.may, fun x H6 el n6 s46 e6 ea ex => ?_⟩
      obtain ⟨ox, exx⟩ := e6
      have eC6 := s46 _ _ eC4
      have xC : x ≠ C := fun z => by rw [z, eC6] at exx; cases exx
      refine ⟨x, ox, _, rfl, exx, ?_⟩
      refine for_it (walkI (g := elV) (l := el)) (fun j σ H' => ∃ (st : Bool) (bl' : BL) (o5 o6 o7 o8 : Option V), σ = [some (.ref m), some (.int (u : Nat)), some (.ref C), some (.bl st), some (.str pl), o5, o6, o7, o8] ∧ Sub H H' ∧ SubX C H6 H' ∧ H' C = some (.dK (kS blV bl')) ∧ BestAt H' bl' ∧ WInv rows gl u (wlOf bl') ∧ (∀ x ∈ bl.map (·.1), x ∈ bl'.map (·.1)) ∧
          (st = true → bl' = bl ∧ (∀ p' ∈ (bl.map (·.1)).take i, ∀ dq sq, look (wlOf bl) p' = some (dq, sq) → ∀ p w m, Edge (costOf rows) gl p' p w m → ∃ d s, look (wlOf bl) p = some (d, s) ∧ d ≤ dq + w) ∧ ∀ e ∈ el.take j, ∀ dq sq, look (wlOf bl) pl = some (dq, sq) → ∃ d s, look (wlOf bl) e.1 = some (d, s) ∧ d ≤ dq + e.2.2.1) ∧ (st = false → wmeas 13 312 (wlOf bl') < wmeas 13 312 (wlOf bl)))
        ⟨st, bl', _, _, _, _, rfl, s4.trans s46, (Sub.refl _).x, eC6, s46.best hb4, I4, hk4, fun z => ⟨(ht4 z).1, (ht4 z).2, fun e he => absurd he (by simp)⟩, hf4⟩ (fun j σ H' _ ⟨_, _, _, _, _, _, _, _, s, _⟩ => s _ _ xC exx) ?_ (fun σ H' ⟨st, bl', o5, o6, o7, o8, hσ, h1, h2, h3, h4, h5, h6, h7, h8⟩ => ⟨st, bl', some (.str pl), o5, o6, o7, o8, hσ, h1, (sx4.trans s46.x).trans h2, h3, h4, h5, h6, fun z => ⟨(h7 z).1, fun p' hp' dq sq e p w m' E => ?_⟩, h8⟩)
      rotate_left
      · obtain ⟨_, h9, h10⟩ := h7 z
        rw [tki] at hp'
        rcases List.mem_append.mp hp' with y | y
        · exact h9 p' y dq sq e p w m' E
        · have : p' = pl := by simpa using y
          subst this
          obtain ⟨e', g1, g2⟩ := ex.low m' p w True.intro E
          rw [List.take_length] at h10
          obtain ⟨d, s, g3, g4⟩ := h10 (p, e') (aGet_mem g1) dq sq e
          exact ⟨d, s, g3, by have g4 : d ≤ dq + e'.2.1 := g4; omega⟩
      clear hb4 I4 hk4 ht4 hf4 eC4 em4
      rintro j x σ H7 H8 hj ⟨st, bl', o5, o6, o7, o8, rfl, s7, sx7, eC7, hb7, I7, hk7, ht7, hf7⟩ ⟨t, x1, x2, rfl, hn1, rfl, eu, ev⟩
      replace eu : (el[j]?).map (fun e : Str × (Addr × Int × Nat) => V.str e.1) = some x1 := eu
      replace ev : (el[j]?).map (fun e : Str × (Addr × Int × Nat) => elV e.2) = some x2 := ev
      rw [List.getElem?_eq_getElem hj] at eu ev
      have tkj := take_get hj
      have hme : el[j] ∈ el := List.getElem_mem hj
      have hT := ea _ hme
      have hE := ex.edge _ hme
      cases eu
      cases ev
      generalize el[j] = e at hme tkj hT hE ⊢
      obtain ⟨o, ta, w1, mv⟩ := e
      have s78 : Sub H7 (upd H7 t (.tup [.str o, elV (ta, w1, mv)])) := Sub.new hn1
      have e8 : (upd H7 t (.tup [.str o, elV (ta, w1, mv)])) t = some (.tup [.str o, .ref ta]) := upd_same
      generalize upd H7 t (.tup [.str o, elV (ta, w1, mv)]) = H8 at s78 e8 ⊢
      have hT6 : H6 ta = some (.tup [.int w1, .int (mv : Nat)]) := hT
      have taC : ta ≠ C := fun z => by rw [z, eC6] at hT6; cases hT6
      have hT8 : H8 ta = some (.tup [.int w1, .int (mv : Nat)]) := s78 _ _ (sx7 _ _ taC hT6)
      refine ⟨t, _, rfl, SqT.of e8, rfl, _, _, rfl, _, _, rfl, ⟨ta, _, rfl, SqT.of hT8, rfl, _, _, rfl, _, _, rfl, rfl, rfl, ?_⟩⟩
      have eC8 := s78 _ _ eC7
      have hb8 := s78.best hb7
      have s8 := s7.trans s78
      have sx8 := sx7.trans (s78.x (C := C))
      obtain ⟨v, hv⟩ := aGet_some (hk7 pl hpm)
      obtain ⟨a, dq, sq⟩ := v
      have hlq : look (wlOf bl') pl = some (dq, sq) := by rw [wl_look, hv]; rfl
      obtain ⟨sv, hA8, _⟩ := hb8 _ (aGet_mem hv)
      have hE : Edge (costOf rows) gl pl o w1 mv := hE
      have hbl : bl'.length < 100000 := by
        have := I7.len R
        unfold wlOf at this
        rw [List.length_map] at this
        omega
      have stay : ∀ (σ' : L2.St) (o8 : Option V), σ' = [some (.ref m), some (.int (u : Nat)), some (.ref C), some (.bl st), some (.str pl), some (.str o), some (.int w1), some (.int (mv : Nat)), o8] → (∃ d s, look (wlOf bl') o = some (d, s) ∧ d ≤ dq + w1) →
          ∃ (st : Bool) (bl' : BL) (o5 o6 o7 o8 : Option V), σ' = [some (.ref m), some (.int (u : Nat)), some (.ref C), some (.bl st), some (.str pl), o5, o6, o7, o8] ∧ Sub H H8 ∧ SubX C H6 H8 ∧ H8 C = some (.dK (kS blV bl')) ∧ BestAt H8 bl' ∧ WInv rows gl u (wlOf bl') ∧ (∀ x ∈ bl.map (·.1), x ∈ bl'.map (·.1)) ∧
          (st = true → bl' = bl ∧ (∀ p' ∈ (bl.map (·.1)).take i, ∀ dq sq, look (wlOf bl) p' = some (dq, sq) → ∀ p w m, Edge (costOf rows) gl p' p w m → ∃ d s, look (wlOf bl) p = some (d, s) ∧ d ≤ dq + w) ∧ ∀ e ∈ el.take (j + 1), ∀ dq sq, look (wlOf bl) pl = some (dq, sq) → ∃ d s, look (wlOf bl) e.1 = some (d, s) ∧ d ≤ dq + e.2.2.1) ∧ (st = false → wmeas 13 312 (wlOf bl') < wmeas 13 312 (wlOf bl)) := fun σ' o8 hσ hk => by
        refine ⟨st, bl', _, _, _, _, hσ, s8, sx8, eC8, hb8, I7, hk7, fun z => ?_, hf7⟩
        obtain ⟨rfl, h9, h10⟩ := ht7 z
        refine ⟨rfl, h9, fun e he dq' sq' e' => ?_⟩
        rw [tkj] at he
        rcases List.mem_append.mp he with y | y
        · exact h10 e y dq' sq' e'
        · have : e = (o, ta, w1, mv) := by simpa using y
          subst this
          rw [hlq] at e'
          cases e'
          exact hk
      have put : ∀ (b a' : Addr) (H9 H10 : Hp) (σ' : L2.St) (o8 : Option V), Sub H8 H10 → H10 b = some (.tup [.str pl, .int (mv : Nat)]) → H10 a' = some (.tup [.int (dq + w1), .ref b]) → σ' = [some (.ref m), some (.int (u : Nat)), some (.ref C), some (.bl false), some (.str pl), some (.str o), some (.int w1), some (.int (mv : Nat)), o8] → (∀ d s, look (wlOf bl') o = some (d, s) → dq + w1 < d) →
          ∃ (st : Bool) (bl'' : BL) (o5 o6 o7 o8 : Option V), σ' = [some (.ref m), some (.int (u : Nat)), some (.ref C), some (.bl st), some (.str pl), o5, o6, o7, o8] ∧ Sub H (upd H10 C (.dK (kS blV (aPut bl' o (a', dq + w1, some (pl, mv)))))) ∧ SubX C H6 (upd H10 C (.dK (kS blV (aPut bl' o (a', dq + w1, some (pl, mv)))))) ∧ (upd H10 C (.dK (kS blV (aPut bl' o (a', dq + w1, some (pl, mv)))))) C = some (.dK (kS blV bl'')) ∧ BestAt (upd H10 C (.dK (kS blV (aPut bl' o (a', dq + w1, some (pl, mv)))))) bl'' ∧ WInv rows gl u (wlOf bl'') ∧ (∀ x ∈ bl.map (·.1), x ∈ bl''.map (·.1)) ∧
          (st = true → bl'' = bl ∧ (∀ p' ∈ (bl.map (·.1)).take i, ∀ dq sq, look (wlOf bl) p' = some (dq, sq) → ∀ p w m, Edge (costOf rows) gl p' p w m → ∃ d s, look (wlOf bl) p = some (d, s) ∧ d ≤ dq + w) ∧ ∀ e ∈ el.take (j + 1), ∀ dq sq, look (wlOf bl) pl = some (dq, sq) → ∃ d s, look (wlOf bl) e.1 = some (d, s) ∧ d ≤ dq + e.2.2.1) ∧ (st = false → wmeas 13 312 (wlOf bl'') < wmeas 13 312 (wlOf bl)) := fun b a' H9 H10 σ' o8 s810 eb ea' hσ less => by
        have eC10 := s810 _ _ eC8
        obtain ⟨Iw, hlt2⟩ := I7.put R Pt hlq hE less
        refine ⟨false, _, _, _, _, _, hσ, (s8.trans s810).mut nC, (sx8.trans s810.x).put, upd_same, fun e he => ?_, by rw [wl_put]; exact Iw, fun x hx => ?_, (fun z => nomatch z), fun _ => ?_⟩
        · have bC : b ≠ C := fun z => by rw [z, eC10] at eb; cases eb
          have aC : a' ≠ C := fun z => by rw [z, eC10] at ea'; cases ea'
          rcases aPut_mem he with z | ⟨z, _⟩
          · subst z
            exact ⟨.ref b, (upd_ne aC).trans ea', b, rfl, (upd_ne bC).trans eb⟩
          · exact ((Sub.refl H10).x.put).best eC10 (s810.best hb8) e z
        · rw [aPut_keys]
          split
          · exact hk7 x hx
          · exact List.mem_append_left _ (hk7 x hx)
        · rw [wl_put]
          cases st with
          | true => obtain ⟨rfl, _⟩ := ht7 rfl; exact hlt2
          | false => exact Nat.lt_trans hlt2 (hf7 rfl)
      refine ⟨_, rfl, _, rfl, C, .ref a, rfl, (by have := dget_d eC8 pl; rwa [hv] at this), a, _, 0, _, rfl, rfl, SqT.of hA8, rfl, _, rfl, _, _, rfl, rfl, ?_⟩
      refine ⟨_, rfl, _, rfl, C, _, rfl, dget_d eC8 o, _, rfl, ?_⟩
      cases hgo : aGet bl' o with
      | none =>
        refine ⟨_, rfl, _, rfl, _, rfl, sz (by simp), fun b nb => ⟨sz (by simp), fun a' na => ?_⟩⟩
        refine ⟨_, rfl, _, rfl, C, _, rfl, dput_d (f := blV) ((Sub.new nb |>.trans (Sub.new na)) _ _ eC8) o (a', dq + w1, some (pl, mv)) hbl, ?_⟩
        refine put b a' H8 _ _ _ (Sub.new nb |>.trans (Sub.new na)) (Sub.new na _ _ upd_same) upd_same rfl fun d s z => ?_
        rw [wl_look, hgo] at z
        cases z
      | some e =>
        obtain ⟨sv', hA8', _⟩ := hb8 _ (aGet_mem hgo)
        have hlo : look (wlOf bl') o = some (e.2.1, e.2.2) := by rw [wl_look, hgo]; rfl
        refine rd_ite (fun z => nomatch z) (fun _ => ?_)
        refine ⟨_, rfl, _, rfl, _, rfl, C, .ref e.1, rfl, (by have := dget_d eC8 o; rwa [hgo] at this), e.1, _, 0, _, rfl, rfl, SqT.of hA8', rfl, _, _, rfl, rfl, _, rfl, ?_⟩
        refine rd_ite (fun hl => ?_) (fun hl => ?_)
        · refine ⟨_, rfl, _, rfl, _, rfl, sz (by simp), fun b nb => ⟨sz (by simp), fun a' na => ?_⟩⟩
          refine ⟨_, rfl, _, rfl, C, _, rfl, dput_d (f := blV) ((Sub.new nb |>.trans (Sub.new na)) _ _ eC8) o (a', dq + w1, some (pl, mv)) hbl, ?_⟩
          refine put b a' H8 _ _ _ (Sub.new nb |>.trans (Sub.new na)) (Sub.new na _ _ upd_same) upd_same rfl fun d s z => ?_
          rw [hlo] at z
          cases z
          exact of_decide_eq_true hl
        · exact stay _ _ rfl ⟨_, _, hlo, by have := of_decide_eq_false hl; dsimp only at this; omega⟩
end
end K31
set_option Elab.async false
set_option linter.all false
set_option maxRecDepth 100000
set_option maxHeartbeats 4000000
/-! min of a list of pairs (a number, a text): some member. -/
namespace K31
open PySem PySem.Spec PyProof.Rows L2 He
section
variable {X : Cx}
def PairV (K : PySem.W.Frag) (H : Hp) (x : V) : Prop := ∃ (t : Addr) (i : Int) (z : Str), x = .ref t ∧ SqT K H t [.int i, .str z]
def rMinP (K : PySem.W.Frag) : List V → Hp → VK → Prop := fun vs H Q => ∃ (a : Addr) (xs : List V), vs = [V.ref a] ∧ SqL K H a xs ∧ xs ≠ [] ∧ (∀ x ∈ xs, PairV K H x) ∧ ∀ x ∈ xs, Q x H
theorem argBest_lt' (bt : Nat → Nat → Bool) : ∀ n, argBest bt n ≤ n
  | 0 => Nat.le_refl _
  | n + 1 => by
    unfold argBest
    split
    · exact Nat.le_refl _
    · exact Nat.le_succ_of_le (argBest_lt' bt n)
theorem cr_minP (hc : X.calm = true) (hu : X.A.units + 1 < cLine) : CallR X (.builtin "min") (rMinP X.K) := by
  intro pins s σ H vs us Q I r h
  obtain ⟨a, xs, rfl, hs, hne, hp, q⟩ := h
  obtain ⟨its, rv, hl, _⟩ := I.list hs
  have hl := hl.isList
  have hlen := rv.length
  rw [Vals.ref1 r]
  have hlt : a < s.heap.objs.size := by obtain ⟨_, e, _⟩ := hl; exact Heap.lt_size e
  have hpos : 0 < its.toArray.size := by
    rw [List.size_toArray, ← hlen]
    exact List.length_pos_iff.mpr hne
  -- what the i-th member is
  have each : ∀ (i : Nat) (v : Value), its.toArray[i]? = some v → ∃ (t : Addr) (k : Int) (z : Str) (t1 t2 : Tok), v = .ref t ∧ s.heap.IsTuple t #[.int k t1, .str z t2] := fun i v e => by
    have e' : its[i]? = some v := by simpa using e
    obtain ⟨x, hx, rx⟩ : ∃ x, xs[i]? = some x ∧ RelV x v := by
      have hi : i < xs.length := by rw [hlen]; exact (List.getElem?_eq_some_iff.mp e').1
      obtain ⟨u, hu1, hu2⟩ := rv.get (List.getElem?_eq_getElem hi)
      rw [e'] at hu1
      cases hu1
      exact ⟨_, List.getElem?_eq_getElem hi, hu2⟩
    obtain ⟨t, k, z, rfl, ht⟩ := hp x (List.mem_of_getElem? hx)
    obtain ⟨its2, rv2, pl, _⟩ := I.tuple ht
    cases rv2 with
    | cons r1 rr =>
      cases rr with
      | cons r2 rr =>
        cases rr
        obtain ⟨t1, rfl⟩ := r1
        obtain ⟨t2, rfl⟩ := r2
        exact ⟨t, k, z, t1, t2, rx, pl⟩
  -- how two of them compare
  let key : Nat → Int × Str := fun i => match its.toArray[i]? with
    | some (.ref t) => match s.heap.get? t with
      | some o => match o.data with
        | .seq ws _ => match ws.toList with
          | [.int k _, .str z _] => (k, z)
          | _ => (0, Str.empty)
        | _ => (0, Str.empty)
      | none => (0, Str.empty)
    | _ => (0, Str.empty)
  have hkey : ∀ (i : Nat) (v : Value), its.toArray[i]? = some v → ∃ (t : Addr) (t1 t2 : Tok), v = .ref t ∧ s.heap.IsTuple t #[.int (key i).1 t1, .str (key i).2 t2] := fun i v e => by
    obtain ⟨t, k, z, t1, t2, rfl, ht⟩ := each i v e
    obtain ⟨o, ho, hoc, n, hod⟩ := id ht
    have : key i = (k, z) := by
      show (match its.toArray[i]? with
        | some (.ref t) => match s.heap.get? t with
          | some o => match o.data with
            | .seq ws _ => match ws.toList with
              | [.int k _, .str z _] => (k, z)
              | _ => (0, Str.empty)
            | _ => (0, Str.empty)
          | none => (0, Str.empty)
        | _ => (0, Str.empty)) = (k, z)
      rw [e]
      dsimp only
      rw [ho]
      dsimp only
      rw [hod]
    rw [this]
    exact ⟨t, t1, t2, rfl, ht⟩
  refine PySem.call_min_walkH (wpAny_pyIter_list hl ?_)
  refine ⟨_, _, _, _, _, _, _, s.heap, fun i j => Ob.lexAt (fun n => if n = 0 then ((key i).1 == (key j).1) else ((key i).2 == (key j).2)) (fun n => if n = 0 then decide ((key i).1 < (key j).1) else decide ((key i).2.cps.toList < (key j).2.cps.toList)) (decide (2 < 2)) 0 2, rfl,
    (Walks.list (A := X.A.in1) (I.ok.hd hc) s.heap.objs.size a (Nat.ne_of_lt hlt) its.toArray).toS, ⟨⟨_, Heap.get?_push_size _ rfl, rfl, rfl⟩, hl.push _⟩, fun b hb => ?_, hpos, fun b o e hb => ?_, fun b o e => Heap.get?_push_of_some _ e, fun i j vi vj s' Q' E' hk pi pj hq => ?_, fun v s' hv hm => ?_⟩
  · show b < (s.heap.push _).objs.size
    rw [Heap.size_push]
    rcases List.mem_cons.mp hb with e | hb
    · rw [e]; exact Nat.lt_succ_self _
    · rw [List.mem_singleton.mp hb]; exact Nat.lt_succ_of_lt hlt
  · rw [List.mem_singleton.mp hb] at e
    exact absurd (Heap.lt_size e) (Nat.lt_irrefl _)
  · obtain ⟨t, t1, t2, rfl, ht⟩ := hkey i vi pi
    obtain ⟨t', t1', t2', rfl, ht'⟩ := hkey j vj pj
    refine Ob.RcOp.tuples_lt (A := X.A.in1) (s := s') (e := fun n => if n = 0 then ((key i).1 == (key j).1) else ((key i).2 == (key j).2)) (r := fun n => if n = 0 then decide ((key i).1 < (key j).1) else decide ((key i).2.cps.toList < (key j).2.cps.toList)) (ht.at fun o e => hk _ _ e) (ht'.at fun o e => hk _ _ e) hu (fun n h1 h2 => ?_) (fun n h1 h2 he => ?_) _ _ _ _ hq
    · match n, h1, h2 with
      | 0, _, _ => exact SeqAt.EqAt.int_int _ _ _ _
      | 1, _, _ => exact SeqAt.EqAt.str_str _ _ _ _
      | n + 2, h1, _ => exact absurd h1 (by simp)
    · match n, h1, h2, he with
      | 0, _, _, _ => exact Ob.RcOp.lt_int _ _ _ _
      | 1, _, _, _ => exact fun _ _ _ _ h => PyProof.Rows.lt_str h
      | n + 2, h1, _, _ => exact absurd h1 (by simp)
  · have hb : argBest (fun i j => Ob.lexAt (fun n => if n = 0 then ((key i).1 == (key j).1) else ((key i).2 == (key j).2)) (fun n => if n = 0 then decide ((key i).1 < (key j).1) else decide ((key i).2.cps.toList < (key j).2.cps.toList)) (decide (2 < 2)) 0 2) (its.toArray.size - 1) < xs.length := by
      have := argBest_lt' (fun i j => Ob.lexAt (fun n => if n = 0 then ((key i).1 == (key j).1) else ((key i).2 == (key j).2)) (fun n => if n = 0 then decide ((key i).1 < (key j).1) else decide ((key i).2.cps.toList < (key j).2.cps.toList)) (decide (2 < 2)) 0 2) (its.toArray.size - 1)
      rw [List.size_toArray, ← hlen] at this hpos ⊢
      omega
    obtain ⟨u, hu1, hu2⟩ := rv.get (List.getElem?_eq_getElem hb)
    have hv' : its[argBest (fun i j => Ob.lexAt (fun n => if n = 0 then ((key i).1 == (key j).1) else ((key i).2 == (key j).2)) (fun n => if n = 0 then decide ((key i).1 < (key j).1) else decide ((key i).2.cps.toList < (key j).2.cps.toList)) (decide (2 < 2)) 0 2) (its.toArray.size - 1)]? = some v := by simpa using hv
    rw [hv'] at hu1
    cases hu1
    obtain ⟨h9, g9, d9, t9, o9⟩ := s'
    obtain ⟨hh, hg, hd, ho, ht⟩ := hm
    dsimp only at hh hg hd ho ht
    subst hg hd ho
    exact ⟨_, H, I.kept (t' := t9) fun b o e => hh b o (fun hmem => by
      rw [List.mem_singleton.mp hmem] at e
      exact absurd (Heap.lt_size e) (Nat.lt_irrefl _)) (Heap.get?_push_of_some _ e), hu2, q _ (List.getElem_mem hb)⟩
end
end K31
set_option Elab.async false
set_option linter.all false
set_option maxRecDepth 100000
set_option maxHeartbeats 4000000
namespace K31
open PySem PySem.Spec PyProof.Rows L2 He
open C8 (Cal Met Mak pe_c pe_mk pe_mt pe_mt0 pe_gc)
section
variable {P : Program} {w : World} {K : PySem.W.Frag} {mg : Str → Option Value} {base : Heap}
/-! ### defs that raise -/
/-- a method that may let an exception out -/
def MetX (P : Program) (w : World) (K : PySem.W.Frag) (mg : Str → Option Value) (base : Heap) (k : Nat) (C : Addr) (m : Str) (sp : Sp) : Prop :=
  ∃ (f : Addr) (fd : FuncData) (ps : List Str), Cls K C ∧ Meth K C m f ∧ FnOk P w K mg base (L2.CX P w) k f fd ps sp ∧ Binds K fd ps []
theorem metX_of {C m q : Str} {st : Stmt} {N ps : List Str} {k : Nat} {sp : Sp} {f : Addr} (F : FnP K m q st [] f) (c : Cls K (ga K C)) (me : Meth K (ga K C) m f) (S : FnScope N ps (defScope st)) (len : ∀ vs H Q E, sp vs H Q E → vs.length = ps.length)
    (bd : ∀ (kV doc pm : Value) (an : Option Addr) (cdv ct : Value) (us : List Value), us.length = ps.length → bindArgs (PySem.W.fnOf m q (defArgs st) (defBody st) (defScope st) .none kV doc pm an cdv ct) ⟨us, []⟩ = pure (ps.zip us))
    (hbody : ∀ (f : Addr) (cdv : Value) (A : Around) (outer : List Env) (s : Shared) (H : Hp) (vs : List V) (Q : VK) (E : XK), Room k (A.deeper (envOfC q (defScope st) s.heap.objs.size f cdv)) → sp vs H Q E →
      ∃ t, PSs (cxOf (L2.CX P w) P w K mg base N q (defScope st) f cdv A outer s H E) (defBody st) t ∧ t { nx := fun _ H' => Q .non H', rt := Q } (L2.start N vs) H) : MetX P w K mg base (k + 1) (ga K C) m sp := by
  obtain ⟨fd, F⟩ := F
  exact ⟨f, fd, ps, c, me, F.ok S len fun cdv A outer s H vs Q E hr h => hbody _ cdv A outer s H vs Q E hr h, F.bindsN bd⟩
theorem pe_mtX {X : Cx} {k j : Nat} {C : Addr} {m : Str} {sp : Sp} {pos apos : Pos} {e o : Expr} {es : List Expr} {ta : TE} {t : TA} {E : XK} {pl : Sem Bool} (c : MetX X.prog X.w X.K X.mg X.base k C m sp) (tk : Takes X fun cls d _ H => E cls d H) (hr : Room j X.A) (hk : k ≤ j) (he : PE X o ta) (ha : PA X (e :: es) t)
    (hst : starEach (e :: es) X.env = (false, eval e X.env) :: starEach es X.env := by rfl) (hpl : (backTo pos (starEach es X.env)).any (·.1) = false := by rfl)
    (ht : eval (.Call (.Attribute o m apos) (e :: es) [] pos) X.env = (do
      let ov ← eval o X.env
      standAt apos.atName
      let (f, first) ← holding [ov] (getMethod ov m pl)
      callWith pos f first (backTo pos (starEach (e :: es) X.env)) (backToKw pos (keywordEach [] X.env))) := by rfl) :
    PE X (.Call (.Attribute o m apos) (e :: es) [] pos) (tMeth C m sp [] E ta t) := by
  obtain ⟨f, fd, ps, hc, hm, F, b⟩ := c
  exact pe_meth (pl := pl) he hc hm F (hr.mono hk) b .nil (passes_call tk fun _ _ _ _ h => h) ha hst hpl ht
/-- a def that may let an exception out -/
def CalX (P : Program) (w : World) (K : PySem.W.Frag) (mg : Str → Option Value) (base : Heap) (k : Nat) (x : Str) (sp : Sp) : Prop :=
  ∃ (fd : FuncData) (ps : List Str), FnOk P w K mg base (L2.CX P w) k (ga K x) fd ps sp ∧ mg x = some (.ref (ga K x)) ∧ PySem.W.keepIn K (.ref (ga K x)) = true ∧ Binds K fd ps []
theorem calX_of {x : Str} {st : Stmt} {N ps : List Str} {k : Nat} {sp : Sp} (F : FnP K x x st [] (ga K x)) (hm : mg x = some (.ref (ga K x))) (S : FnScope N ps (defScope st)) (len : ∀ vs H Q E, sp vs H Q E → vs.length = ps.length)
    (bd : ∀ (kV doc pm : Value) (an : Option Addr) (cdv ct : Value) (us : List Value), us.length = ps.length → bindArgs (PySem.W.fnOf x x (defArgs st) (defBody st) (defScope st) .none kV doc pm an cdv ct) ⟨us, []⟩ = pure (ps.zip us))
    (hbody : ∀ (f : Addr) (cdv : Value) (A : Around) (outer : List Env) (s : Shared) (H : Hp) (vs : List V) (Q : VK) (E : XK), Room k (A.deeper (envOfC x (defScope st) s.heap.objs.size f cdv)) → sp vs H Q E →
      ∃ t, PSs (cxOf (L2.CX P w) P w K mg base N x (defScope st) f cdv A outer s H E) (defBody st) t ∧ t { nx := fun _ H' => Q .non H', rt := Q } (L2.start N vs) H) : CalX P w K mg base (k + 1) x sp := by
  obtain ⟨fd, F⟩ := F
  exact ⟨fd, ps, F.ok S len fun cdv A outer s H vs Q E hr h => hbody _ cdv A outer s H vs Q E hr h, hm, F.kp, F.bindsN bd⟩
theorem pe_cX {X : Cx} {k j : Nat} {x : Str} {sp : Sp} {p pos : Pos} {e : Expr} {es : List Expr} {t : TA} {E : XK} (c : CalX X.prog X.w X.K X.mg X.base k x sp) (tk : Takes X fun cls d _ H => E cls d H) (hr : Room j X.A) (hk : k ≤ j) (hg : Gl X x) (ha : PA X (e :: es) t)
    (hdb : (x == ("__debug__" : Str)) = false := by decide) (he : starEach (e :: es) X.env = (false, eval e X.env) :: starEach es X.env := by rfl) (hpl : (backTo pos (starEach es X.env)).any (·.1) = false := by rfl) :
    PE X (.Call (.Name x p) (e :: es) [] pos) (tCall sp [] E t) := by
  obtain ⟨fd, ps, F, hm, kp, b⟩ := c
  exact pe_call F (hr.mono hk) hg hm kp b .nil (passes_call tk fun _ _ _ _ h => h) ha hdb he hpl

/-! ### Crowded -/
/-- RolloutError.__init__(self, ..): ValueError's -/
theorem pe_roinit {X : Cx} {e : Expr} {es : List Expr} {ta : TA} {p1 p2 pos : Pos} {C : Addr} {x : Str} {pl : Sem Bool} (hg : Gl X x) (hm : X.mg x = some (.ref C)) (hd : (x == ("__debug__" : Str)) = false) (r : ClX.CRead X.K C (.type "type"))
    (vV : PySem.W.findCls X.K (.ref C) (.type "type") "__init__" = some (.val (.builtin "ValueError.__init__"))) (ha : PA X (e :: es) ta)
    (hc : eval (.Call (.Attribute (.Name x p1) "__init__" p2) (e :: es) [] pos) X.env = (do
      let ov ← eval (.Name x p1) X.env
      standAt p2.atName
      let (f, first) ← holding [ov] (getMethod ov "__init__" pl)
      callWith pos f first (backTo pos (starEach (e :: es) X.env)) (backToKw pos (keywordEach [] X.env))) := by rfl)
    (he : starEach (e :: es) X.env = (false, eval e X.env) :: starEach es X.env := by rfl) (hpl : (backTo pos (starEach es X.env)).any (·.1) = false := by rfl) :
    PE X (.Call (.Attribute (.Name x p1) "__init__" p2) (e :: es) [] pos) (tVeI X.K ta) := by
  refine ⟨fun pins s σ H Q I h => ?_⟩
  refine PySem.W.methodCall_KW (ld_glob I hg hm ?_ hd) hc
  refine PySem.W.method_cls I.kIn r.ga (PySem.W.cls_value I.kIn r.rd vV (by decide +kernel) ?_)
  show wpAny _ _ (callWith pos (Value.builtin "ValueError.__init__") [] (backTo pos (starEach (e :: es) X.env)) []) _ _ _
  refine PyProof.Rows.callWith_method1 (thn (ha.run pos pins _ σ H _ (I.tok _) h) fun us s1 ⟨vs, H1, I1, r1, a, C, ws, ev, hl, T, ea, q⟩ => ?_) he hpl
  subst ev
  cases r1 with
  | @cons _ u0 _ ur ra rw' =>
    obtain rfl : u0 = Value.ref a := ra
    have hlen : ur.length ≤ sizeLine := by
      rw [← Paired.length rw', sizeLine_eq]
      omega
    exact oinit_ok T I1 ea hlen fun s' J => ⟨.non, H1, J, rfl, q⟩
def sp_Crowded_init (K : PySem.W.Frag) : Sp := fun vs H Q _ => ∃ (a : Addr) (x : V), vs = [.ref a, x] ∧ H a = some (exo a (ga K "Crowded") none) ∧ ∀ d, H d = none → d ≠ a → Q .non (upd (upd H d (exd d [("users", x)])) a (exo a (ga K "Crowded") (some d)))
abbrev n_Crowded_init : List Str := ["self", "users"]
theorem sc_Crowded_init : FnScope n_Crowded_init ["self", "users"] (defScope mCrowded_init) := ⟨rfl, rfl, rfl, by decide +kernel, rfl, by decide +kernel, by decide +kernel⟩
theorem ok_Crowded_init (T : Txt K mg) : ∃ fd, FnOk P w K mg base CX0 1 (ma K (ga K "Crowded") "__init__") fd ["self", "users"] (sp_Crowded_init K) ∧ Binds K fd ["self", "users"] [] := by
  obtain ⟨fd, F⟩ := T.f_Crowded_init
  refine ⟨fd, F.ok sc_Crowded_init (fun vs H Q E h => ?_) (fun cdv A outer s H vs Q E hr h => ?_), F.bindsN fun _ _ _ _ _ _ us hl => match us, hl with | [_, _], _ => rfl⟩
  · obtain ⟨a, x, rfl, _⟩ := h
    rfl
  · obtain ⟨a, x, rfl, ha, k⟩ := h
    refine ⟨_, (pss_cons (ps_expr (pe_roinit rfl T.g_RolloutError (by decide) T.rr_RE T.ri_RE (pa_cons (pv 0) (pa_cons pe_str pa_nil)))) (pss_one (ps_ost (pv 0) (pv 1)))), ?_⟩
    refine ⟨_, rfl, a, ga K "Crowded", _, rfl, by simp, T.x_Crowded, ha, ?_⟩
    refine ⟨_, rfl, _, rfl, a, ga K "Crowded", rfl, T.x_Crowded, T.xn_Crowded, .inl ⟨ha, fun d n ne => k d n ne⟩⟩
/-- what stands behind raise Crowded(..) -/
theorem sub_exc {H1 H2 : Hp} {a d : Addr} {x : V} {C : Addr} (na : H1 a = none) (nd : H1 d = none) (h : H2 = upd (upd (upd H1 a (exo a C none)) d (exd d [("users", x)])) a (exo a C (some d))) : Sub H1 (upd (del H2 a) d (.xd [("users", x)])) := fun b o e => by
  rw [upd_ne (ne_of_none e nd), del_ne (ne_of_none e na), h, upd_ne (ne_of_none e na), upd_ne (ne_of_none e nd), upd_ne (ne_of_none e na)]
  exact e
theorem asc_le {S : List Nat} (h : Asc S) : (S.map fun i : Nat => (i : Int)).Pairwise (· ≤ ·) := by
  rw [List.pairwise_map]
  exact h.imp fun h => by omega
theorem ints_one {a : List Int} {S : List Nat} (p : a.Perm (S.map fun i : Nat => (i : Int))) (ha : a.Pairwise (· ≤ ·)) (h : Asc S) : a = S.map fun i : Nat => (i : Int) :=
  List.Perm.eq_of_pairwise (le := fun x y : Int => x ≤ y) (fun x y _ _ h1 h2 => Int.le_antisymm h1 h2) ha (asc_le h) p

/-! ### enter -/
def sp_Market_enter (K : PySem.W.Frag) : Sp := fun vs H Q E => ∃ (m F r gd : Addr) (gl : List Str) (rows : Rows) (U : List Str) (rl : List (Str × Int)) (room : Str → Nat), vs = [.ref m, .int (gl.length : Nat)] ∧ MktAt K H m F r gd ∧ H gd = some (.dK (gkv gl)) ∧ gl.length < rows.length ∧ CostsAt H F rows ∧ RowsOk rows U ∧
  FDf V.int H r rl ∧ (∀ p ∈ U, aGet rl p = some (room p : Int)) ∧ Good (costOf rows) room gl ∧
  (∀ (H' : Hp) (gl' : List Str), SubX gd H H' → H' gd = some (.dK (gkv gl')) → gl'.length = gl.length + 1 → Good (costOf rows) room gl' → Q .non H') ∧
  (∀ (H' : Hp) (d q : Addr) (S : List Nat), Sub H H' → H' d = some (.xd [("users", .ref q)]) → H' q = some (.tup (S.map fun i => .int (i : Nat))) → Asc S → S ≠ [] → (∀ u ∈ S, u < rows.length) → tooMany U room (costOf rows) S = true → E (.ref (ga K "Crowded")) (some d) H')
abbrev n_Market_enter : List Str := ["self", "user", "best", "free", "place", "step", "before", "mover", "other"]
theorem sc_Market_enter : FnScope n_Market_enter ["self", "user"] (defScope mMarket_enter) := ⟨rfl, rfl, rfl, by decide +kernel, rfl, by decide +kernel, by decide +kernel⟩
theorem ok_Market_enter (T : Txt K mg) : MetX P w K mg base 4 (ga K "Market") "enter" (sp_Market_enter K) := by
  refine metX_of T.f_Market_enter T.c_Market T.m_Market_enter sc_Market_enter (fun vs H Q E h => ?_) (fun _ _ _ _ _ _ us hl => match us, hl with | [_, _], _ => rfl) (fun f cdv A outer s H vs Q E hr h => ?_)
  · obtain ⟨m, F, r, gd, gl, rows, U, rl, room, rfl, _⟩ := h
    rfl
  · obtain ⟨m, F, r, gd, gl, rows, U, rl, room, rfl, hm, hg, hlt, hc, R, hrl, hroom, G, k, ke⟩ := h
    have hu := hu_of hr
    have htk : Takes (cxOf (L2.CX P w) P w K mg base n_Market_enter "Market.enter" (defScope mMarket_enter) f cdv A outer s H E) (fun cls d _ H => E cls d H) := takes_of rfl rfl rfl rfl
    obtain ⟨fdc, Fc, bc⟩ := ok_Crowded_init (P := P) (w := w) (base := base) T
    have hr2 := hr.mono (show 2 ≤ 3 by decide)
    have h60 := R.len
    refine ⟨_, (pss_cons (ps_set (i := 2) sc_Market_enter.nd rfl (.inr rfl) (pe_mt (ok_Market_ways T) hr (by decide) (pv 0) (pa_cons (pv 1) pa_nil)))
  (pss_cons (ps_setLc (i := 3) (own := [("place", 4)]) (g := (gName 4)) (tt := (tTest (tOp (rI0 fun i j => .bl (decide (i < j))) (tCB (kLenL K) (tCons (tMeth (ga K "Market") "users_at" (sp_Market_users_at K) [] E0 (tVar 0) (tCons (tVar 4) tNil)) tNil)) (tDGet (tFld K (tVar 0) "rooms") (tVar 4))))) (te := (tVar 4)) rfl sc_Market_enter.nd rfl rfl (sw_true rfl rfl rfl (by decide +kernel)) (pi_keys (pv 2)) (blkOk_by (N := n_Market_enter) (sc := defScope mMarket_enter) (by decide +kernel)) (fun _ _ _ _ _ => (pg_name (i := 4) sc_Market_enter.nd rfl (.inl rfl))) (fun _ _ _ _ _ => pts_one (pt_cmpR op_lt (pe_callB c_lenL rfl T.n_len (by decide +kernel) (pa_cons (pe_mt (ok_Market_users_at T) hr (by decide) (pv 0) (pa_cons (pv 4) pa_nil)) pa_nil)) (pe_dget hu (pe_fld (pv 0) rfl) (pv 4) (fun _ _ => rfl)) (nomark _))) (fun _ _ _ _ _ => (pv 4)))
  (pss_cons (ps_if (pt_cmpR (op_eqD hr.units) (pv 3) (pe_lst pa_nil) (nomark _)) (pss_one (ps_raise rfl htk (pmk_oex T.x_Crowded T.xi_Crowded T.xt_Crowded Fc hr2 bc .nil pass0 rfl T.g_Crowded (pa_cons (pe_callTy c_tuple rfl T.n_tuple (by decide +kernel) (pa_cons (pe_callB cr_sorted rfl T.n_sorted (by decide +kernel) (pa_cons (pe_op op_cat (pe_lst (pa_cons (pv 1) pa_nil)) (pe_lock (pe_lc (own := [("other", 8)]) (g := (gName 8)) (tt := (tB (tDIn (tDGet (tFld K (tVar 0) "given") (tVar 8)) (tVar 2)))) (te := (tVar 8)) rfl sc_Market_enter.nd (pi_keys (pe_fld (pv 0) rfl)) (blkOk_by (N := n_Market_enter) (sc := defScope mMarket_enter) (by decide +kernel)) (fun _ _ _ _ _ => (pg_name (i := 8) sc_Market_enter.nd rfl (.inl rfl))) (fun _ _ _ _ _ => pts_one (pt_cmp (pc_din hu (pe_dget hu (pe_fld (pv 0) rfl) (pv 8) (fun _ _ => rfl)) (pv 2)))) (fun _ _ _ _ _ => (pv 8))))) pa_nil)) pa_nil)) pa_nil)))) pss_nil)
  (pss_cons (ps_set (i := 4) sc_Market_enter.nd rfl (.inl rfl) (pe_ix ix_tup (pe_callB (cr_minP rfl hu) rfl T.n_min (by decide +kernel) (pa_cons (pe_lc (own := [("place", 4)]) (g := (gName 4)) (tt := tYes) (te := (tTup (tCons (tOp (rIxT K) (tDGet (tVar 2) (tVar 4)) (tC (.int 0))) (tCons (tVar 4) tNil)))) rfl sc_Market_enter.nd (pi_list (pv 3)) (blkOk_by (N := n_Market_enter) (sc := defScope mMarket_enter) (by decide +kernel)) (fun _ _ _ _ _ => (pg_name (i := 4) sc_Market_enter.nd rfl (.inl rfl))) (fun _ _ _ _ _ => pts_nil) (fun _ _ _ _ _ => (pe_tup (pa_cons (pe_ix ix_tup (pe_dget hu (pv 2) (pv 4) (fun _ _ => rfl)) pe_int (fun _ _ => rfl)) (pa_cons (pv 4) pa_nil))))) pa_nil)) pe_int (fun _ _ => rfl)))
  (pss_cons (ps_set (i := 5) sc_Market_enter.nd rfl (.inl rfl) (pe_ix ix_tup (pe_dget hu (pv 2) (pv 4) (fun _ _ => rfl)) pe_int (fun _ _ => rfl)))
  (pss_cons (ps_while (passes_of rfl) (pt_cmp (pc_notN (pv 5)))
  (pss_cons (ps_asg (pv 5) (pg_tup (n := 2) rfl (pgs_cons (pg_name (i := 6) sc_Market_enter.nd rfl (.inl rfl)) (pgs_cons (pg_name (i := 7) sc_Market_enter.nd rfl (.inl rfl)) pgs_nil))))
  (pss_cons (ps_dput hu (pe_fld (pv 0) rfl) (pv 7) (pv 4) rfl)
  (pss_cons (ps_set (i := 4) sc_Market_enter.nd rfl (.inl rfl) (pv 6))
  (pss_one (ps_set (i := 5) sc_Market_enter.nd rfl (.inl rfl) (pe_ix ix_tup (pe_dget hu (pv 2) (pv 4) (fun _ _ => rfl)) pe_int (fun _ _ => rfl))))))))
  (pss_one (ps_dput hu (pe_fld (pv 0) rfl) (pv 1) (pv 4) rfl)))))))), ?_⟩
    obtain ⟨dxm, em⟩ := id hm
    refine ⟨_, rfl, m, dxm, _, rfl, em, rfl, _, rfl, ?_⟩
    refine ⟨m, F, r, gd, gl, rows, U, room, rfl, hm, hg, hlt, hc, R, G, fun B H1 bl n1 s1 e1 hb I St => ?_⟩
    obtain ⟨oB, eB⟩ := id e1
    have hbU : ∀ e ∈ bl, e.1 ∈ U := fun e he => by
      obtain ⟨v, hv⟩ := aGet_some (List.mem_map.mpr ⟨e, he, rfl⟩ : e.1 ∈ bl.map (·.1))
      exact I.ways.inU (d := v.2.1) (s := v.2.2) R (by rw [wl_look, hv]; rfl)
    have hb13 : bl.length ≤ 13 := by
      have := I.len R
      unfold wlOf at this
      rwa [List.length_map] at this
    -- the places with room
    refine ⟨_, rfl, B, oB, rfl, .inl ⟨_, eB, ?_⟩⟩
    refine k_lcD (data := bl) (toV := fun e : Str × (Addr × Int × Option (Str × Nat)) => V.str e.1) (walkK (g := blV) (l := bl)) (fun H' s => s _ _ eB) (fun e => decide (gl.count e.1 < room e.1)) (fun e => .str e.1) (by omega) (fun i e H' he s' Q' q' => ?_) (fun i e H' _ _ s' Q' q' => ⟨_, rfl, q' _ _ (Sub.refl _) rfl⟩) (fun L H2 n2 s2 e2 => ?_)
    · have hme := List.mem_of_getElem? he
      have sH := s1.trans s'
      obtain ⟨dx1, em1⟩ := sH.mkt hm
      refine ⟨_, rfl, m, dx1, _, rfl, em1, rfl, _, rfl, m, F, r, gd, e.1, gl, rfl, ⟨dx1, em1⟩, sH _ _ hg, by omega, fun q H3 n3 s3 e3 => ?_⟩
      have sH3 := sH.trans s3
      obtain ⟨dx3, em3⟩ := sH3.mkt hm
      refine ⟨q, _, rfl, .inl (SqL.of e3), _, rfl, m, _, dx3, _, _, rfl, em3, T.c_Market, T.a_Market_rooms, rfl, _, rfl, r, .int (room e.1 : Int), rfl, (by have := dget_f (sH3.f hrl) e.1; rwa [hroom e.1 (hbU e hme)] at this), _, _, rfl, rfl, _, rfl, ?_⟩
      have ed : decide (((List.map (fun i : Nat => V.int (i : Nat)) (usersAt gl e.1)).length : Int) < (room e.1 : Int)) = decide (gl.count e.1 < room e.1) := by
        rw [List.length_map, usersAt_len]
        by_cases h : gl.count e.1 < room e.1
        · rw [decide_eq_true h, decide_eq_true (by omega)]
        · rw [decide_eq_false h, decide_eq_false (by omega)]
      show Q' (decide (((List.map (fun i : Nat => V.int (i : Nat)) (usersAt gl e.1)).length : Int) < (room e.1 : Int))) H3
      rw [ed]
      exact q' _ s3
    have s12 := s1.trans s2
    generalize hfr : (bl.filter fun e => decide (gl.count e.1 < room e.1)).map (fun e : Str × (Addr × Int × Option (Str × Nat)) => e.1) = free
    have e2 : H2 L = some (.lst (free.map V.str)) := by rw [e2, ← hfr, List.map_map]; rfl
    have hfree : ∀ x ∈ free, ∃ e ∈ bl, e.1 = x ∧ gl.count x < room x := fun x hx => by
      rw [← hfr] at hx
      obtain ⟨e, he, rfl⟩ := List.mem_map.mp hx
      obtain ⟨h1, h2⟩ := List.mem_filter.mp he
      exact ⟨e, h1, rfl, of_decide_eq_true h2⟩
    refine ⟨_, rfl, sz (by simp), fun Z nZ => ?_⟩
    refine eqD_strs (xs := free) (ys := []) (SqL.of ((Sub.new nZ) _ _ e2)) (SqL.of upd_same) (fun x hx => by
      obtain ⟨e, he, h1, _⟩ := hfree x hx
      rw [← h1]; exact R.str _ (hbU e he)) (fun x hx => absurd hx (by simp)) ⟨_, rfl, ?_⟩
    have s3 : Sub H (upd H2 Z (.lst [])) := s12.trans (Sub.new nZ)
    generalize hH3 : upd H2 Z (.lst []) = H3 at s3 ⊢
    have s23 : Sub H2 H3 := by rw [← hH3]; exact Sub.new nZ
    refine rd_ite (fun hnil => ?_) (fun hnil => ?_)
    · -- no room: Crowded
      have hnil : free = [] := of_decide_eq_true hnil
      have full : ∀ e ∈ bl, room e.1 ≤ gl.count e.1 := fun e he => Nat.le_of_not_lt fun hl => by
        have : e.1 ∈ free := by
          rw [← hfr]
          exact List.mem_map.mpr ⟨e, List.mem_filter.mpr ⟨he, decide_eq_true hl⟩, rfl⟩
        rw [hnil] at this
        cases this
      obtain ⟨dx3, em3⟩ := s3.mkt hm
      refine ⟨_, rfl, sz (by simp), fun l1 n4 => ?_⟩
      have s34 : Sub H3 (upd H3 l1 (.lst [.int (gl.length : Nat)])) := Sub.new n4
      have e4 : (upd H3 l1 (.lst [.int (gl.length : Nat)])) l1 = some (.lst [.int (gl.length : Nat)]) := upd_same
      generalize upd H3 l1 (.lst [.int (gl.length : Nat)]) = H4 at s34 e4 ⊢
      have s4 := s3.trans s34
      have hg4 := s4 _ _ hg
      refine ⟨gd, _, hg4, True.intro, fun o => ?_⟩
      have mgd : m ≠ gd := fun z => by rw [z, hg] at em; cases em
      have Bgd : B ≠ gd := fun z => by rw [z, s1 _ _ hg] at eB; cases eB
      have l1gd : l1 ≠ gd := fun z => by rw [z, hg4] at e4; cases e4
      have em4 := s34 _ _ em3
      have eB4 := s34 _ _ (s23 _ _ (s2 _ _ eB))
      have em5 : upd H4 gd (.frz o (.dK (gkv gl))) m = some (.ins (ga K "Market") dx3 [("costs", .ref F), ("rooms", .ref r), ("given", .ref gd)]) := (upd_ne mgd).trans em4
      have hg5 : upd H4 gd (.frz o (.dK (gkv gl))) gd = some (.frz o (.dK (gkv gl))) := upd_same
      have eB5 : upd H4 gd (.frz o (.dK (gkv gl))) B = some (.frz oB (.dK (kS blV bl))) := (upd_ne Bgd).trans eB4
      refine ⟨_, rfl, m, _, dx3, _, _, rfl, em5, T.c_Market, T.a_Market_given, rfl, gd, o, rfl, .inl ⟨_, hg5, ?_⟩⟩
      refine k_lcD (data := List.range gl.length) (toV := fun m : Nat => V.int (m : Int)) (walkG (gl := gl)) (fun H' s => s _ _ hg5) (fun i => match gl[i]? with | some x => decide (x ∈ bl.map (·.1)) | none => false) (fun i : Nat => V.int (i : Int)) (by rw [List.length_range]; omega) (fun i d H' hd s' Q' q' => ?_) (fun i d H' _ _ s' Q' q' => ⟨_, rfl, q' _ _ (Sub.refl _) rfl⟩) (fun D H6 n6 s6 e6 => ⟨s6 _ _ hg5, ?_⟩)
      · have hdl : d < gl.length := List.mem_range.mp (List.mem_of_getElem? hd)
        refine ⟨_, rfl, m, _, dx3, _, _, rfl, s' _ _ em5, T.c_Market, T.a_Market_given, rfl, _, rfl, gd, .str gl[d], rfl, .inl ⟨_, Sum.inl (d : Int), .inr ⟨o, s' _ _ hg5⟩, rfl, ?_⟩, _, rfl, B, _, rfl, dget_r (.inr ⟨oB, s' _ _ eB5⟩) gl[d], _, rfl, ?_⟩
        · rw [gkv_val, List.getElem?_eq_getElem hdl]; rfl
        · have hq := q' _ (Sub.refl _)
          have ed : (match gl[d]? with | some x => decide (x ∈ bl.map (·.1)) | none => false) = ((aGet bl gl[d]).map blV).isSome := by
            rw [List.getElem?_eq_getElem hdl]
            by_cases z : gl[d] ∈ bl.map (·.1)
            · obtain ⟨v, hv⟩ := aGet_some z
              simp only [hv]
              simp [z]
            · simp only [aGet_none z]
              simp [z]
          rw [ed] at hq
          exact hq
      have nD : D ≠ gd := fun z => by rw [z, hg5] at n6; cases n6
      have s7 : Sub H4 (upd H6 gd (.dK (gkv gl))) := s6.unlock hg4
      have e7 : (upd H6 gd (.dK (gkv gl))) D = some (.lst ((List.filter (fun i => match gl[i]? with | some x => decide (x ∈ bl.map (·.1)) | none => false) (List.range gl.length)).map fun i : Nat => V.int (i : Int))) := (upd_ne nD).trans e6
      generalize upd H6 gd (.dK (gkv gl)) = H7 at s7 e7 ⊢
      refine ⟨l1, D, _, _, rfl, rfl, s7 _ _ e4, e7, sz ?_, fun l2 n8 => ?_⟩
      · rw [List.length_map]
        have := List.length_filter_le (fun i => match gl[i]? with | some x => decide (x ∈ bl.map (·.1)) | none => false) (List.range gl.length)
        rw [List.length_range] at this
        simp
        omega
      have s78 : Sub H7 (upd H7 l2 (.lst ([.int (gl.length : Nat)] ++ (List.filter (fun i => match gl[i]? with | some x => decide (x ∈ bl.map (·.1)) | none => false) (List.range gl.length)).map fun i : Nat => V.int (i : Int)))) := Sub.new n8
      have e8 : (upd H7 l2 (.lst ([.int (gl.length : Nat)] ++ (List.filter (fun i => match gl[i]? with | some x => decide (x ∈ bl.map (·.1)) | none => false) (List.range gl.length)).map fun i : Nat => V.int (i : Int)))) l2 = some (.lst (((gl.length :: (List.filter (fun i => match gl[i]? with | some x => decide (x ∈ bl.map (·.1)) | none => false) (List.range gl.length))).map fun i : Nat => (i : Int)).map V.int)) := by
        rw [upd_same, List.map_map]; rfl
      generalize upd H7 l2 (.lst ([.int (gl.length : Nat)] ++ (List.filter (fun i => match gl[i]? with | some x => decide (x ∈ bl.map (·.1)) | none => false) (List.range gl.length)).map fun i : Nat => V.int (i : Int))) = H8 at s78 e8 ⊢
      refine ⟨l2, _, rfl, SqL.of e8, ?_, fun ns l3 hpm hpw n9 => ?_⟩
      · rw [List.length_map, List.length_cons]
        have := List.length_filter_le (fun i => match gl[i]? with | some x => decide (x ∈ bl.map (·.1)) | none => false) (List.range gl.length)
        rw [List.length_range] at this
        omega
      have hcr : (gl.length :: (List.filter (fun i => match gl[i]? with | some x => decide (x ∈ bl.map (·.1)) | none => false) (List.range gl.length))).Perm (crowdOf gl fun p => decide (p ∈ bl.map (·.1))) := by
        have ef : (List.filter (fun i => match gl[i]? with | some x => decide (x ∈ bl.map (·.1)) | none => false) (List.range gl.length)) ++ [gl.length] = crowdOf gl fun p => decide (p ∈ bl.map (·.1)) := by
          unfold crowdOf
          congr 1
          refine List.filter_congr fun m _ => ?_
          cases gl[m]? <;> rfl
        rw [← ef]
        exact List.perm_append_comm (l₁ := [gl.length])
      have hns : ns = (crowdOf gl fun p => decide (p ∈ bl.map (·.1))).map fun i : Nat => (i : Int) := ints_one (hpm.trans (hcr.map _)) hpw (crowdOf_asc gl _)
      subst hns
      have s89 : Sub H8 (upd H8 l3 (.lst (((crowdOf gl fun p => decide (p ∈ bl.map (·.1))).map fun i : Nat => (i : Int)).map V.int))) := Sub.new n9
      have e9 : (upd H8 l3 (.lst (((crowdOf gl fun p => decide (p ∈ bl.map (·.1))).map fun i : Nat => (i : Int)).map V.int))) l3 = some (.lst (((crowdOf gl fun p => decide (p ∈ bl.map (·.1))).map fun i : Nat => (i : Int)).map V.int)) := upd_same
      generalize upd H8 l3 (.lst (((crowdOf gl fun p => decide (p ∈ bl.map (·.1))).map fun i : Nat => (i : Int)).map V.int)) = H9 at s89 e9 ⊢
      refine ⟨l3, _, rfl, .inl ⟨SqL.of e9, fun tp n10 => ?_⟩⟩
      refine ⟨by simp, fun a na => ?_⟩
      have s9T : Sub H9 (upd H9 tp (.tup (((crowdOf gl fun p => decide (p ∈ bl.map (·.1))).map fun i : Nat => (i : Int)).map V.int))) := Sub.new n10
      have eT : (upd H9 tp (.tup (((crowdOf gl fun p => decide (p ∈ bl.map (·.1))).map fun i : Nat => (i : Int)).map V.int))) tp = some (.tup ((crowdOf gl fun p => decide (p ∈ bl.map (·.1))).map fun i : Nat => V.int (i : Nat))) := by rw [upd_same, List.map_map]; rfl
      generalize upd H9 tp (.tup (((crowdOf gl fun p => decide (p ∈ bl.map (·.1))).map fun i : Nat => (i : Int)).map V.int)) = HT at na s9T eT ⊢
      refine ⟨a, .ref tp, rfl, upd_same, fun d nd ne => ⟨rfl, d, [("users", .ref tp)], upd_same, (upd_ne ne).trans upd_same, (upd_ne ne).symm.trans nd, ?_⟩⟩
      have nd' : HT d = none := (upd_ne ne).symm.trans nd
      have sx := sub_exc (x := .ref tp) (C := ga K "Crowded") na nd' rfl
      have sAll := ((((s4.trans s7).trans s78).trans s89).trans s9T).trans sx
      refine ke _ d tp (crowdOf gl fun p => decide (p ∈ bl.map (·.1))) sAll upd_same (sx _ _ eT) (crowdOf_asc gl _) crowdOf_ne (crowdOf_lt hlt) ?_
      refine crowd_found R.und I.ways St (bl.map (·.1)) (by rw [← wl_keys]; exact I.nd) (fun p => by rw [← wl_keys]; exact look_key) (fun p hp => ?_) G.may
      obtain ⟨e, he, rfl⟩ := List.mem_map.mp hp
      exact full e he
    · have hnil : free ≠ [] := of_decide_eq_false hnil
      have e3L : H3 L = some (.lst (free.map V.str)) := s23 _ _ e2
      have eB3 := s23 _ _ (s2 _ _ eB)
      have hb3 := (s2.trans s23).best hb
      have rdB : ∀ {H' : Hp}, Sub H3 H' → ∀ p ∈ bl.map (·.1), ∃ (a : Addr) (d : Int) (st : Option (Str × Nat)) (sv : V), aGet bl p = some (a, d, st) ∧ DGet H' B (.str p) (some (.ref a)) ∧ H' a = some (.tup [.int d, sv]) ∧ StepV H' sv st := fun {H'} s' p hp => by
        obtain ⟨⟨a, d, st⟩, hv⟩ := aGet_some hp
        obtain ⟨sv, h1, h2⟩ := s'.best hb3 _ (aGet_mem hv)
        exact ⟨a, d, st, sv, hv, by have := dget_r (.inr ⟨oB, s' _ _ eB3⟩) p; rwa [hv] at this, h1, h2⟩
      have hfb : ∀ x ∈ free, x ∈ bl.map (·.1) := fun x hx => by
        obtain ⟨e, he, h1, _⟩ := hfree x hx
        exact List.mem_map.mpr ⟨e, he, h1⟩
      have hfl : free.length ≤ 13 := by
        rw [← hfr, List.length_map]
        exact Nat.le_trans (List.length_filter_le _ _) hb13
      refine ⟨_, rfl, L, rfl, ⟨_, SqL.of e3L⟩, ?_⟩
      refine k_lc (walkL (K := K) (a := L) (data := free) (f := V.str)) (fun H' s => s.l (SqL.of e3L)) (fun _ => true) (fun i ys H' => (∀ y ∈ ys, ∃ t d p, y = V.ref t ∧ H' t = some (.tup [.int d, .str p]) ∧ p ∈ free) ∧ (0 < i → ys ≠ [])) (fun i ys Ha Hb' sn h => ⟨fun y hy => ?_, h.2⟩) ⟨fun y hy => absurd hy (by simp), fun h => absurd h (by simp)⟩ (by omega) (fun _ _ _ _ => evB_yes) (fun i ys H' hi _ s' h Q' q' => ?_) (fun _ _ _ _ z => nomatch z) (fun D ys H4 n4 s34 e4 h4 => ?_)
      · obtain ⟨t, d, p, h1, h2, h3⟩ := h.1 y hy
        exact ⟨t, d, p, h1, sn _ _ h2 (fun xs z => by cases z), h3⟩
      · have hgi : free.getD i default = free[i] := by rw [List.getD_eq_getElem?_getD, List.getElem?_eq_getElem hi]; rfl
        rw [hgi]
        have hm2 := List.getElem_mem hi
        generalize free[i] = x at hm2 ⊢
        obtain ⟨a, d, st, sv, _, hd, hA, _⟩ := rdB s' x (hfb x hm2)
        refine ⟨_, rfl, _, rfl, B, .ref a, rfl, hd, a, _, 0, _, rfl, rfl, SqT.of hA, rfl, _, rfl, sz (by simp), fun t nt => ?_⟩
        refine q' _ _ (Sub.new nt) ⟨fun y hy => ?_, fun _ => by simp⟩
        rcases List.mem_append.mp hy with z | z
        · obtain ⟨t', d', p', h1, h2, h3⟩ := h.1 y z
          exact ⟨t', d', p', h1, (Sub.new nt) _ _ h2, h3⟩
        · have : y = .ref t := by simpa using z
          subst this
          exact ⟨t, d, x, rfl, upd_same, hm2⟩
      have hys : ys ≠ [] := h4.2 (List.length_pos_iff.mpr hnil)
      refine ⟨D, ys, rfl, SqL.of e4, hys, fun y hy => ?_, fun y hy => ?_⟩
      · obtain ⟨t, d, p, h1, h2, h3⟩ := h4.1 y hy
        exact ⟨t, d, p, h1, SqT.of h2⟩
      obtain ⟨t, d0, pl, rfl, h2, hpf⟩ := h4.1 y hy
      refine ⟨t, _, 1, _, rfl, rfl, SqT.of h2, rfl, ?_⟩
      obtain ⟨a, d, st, sv, hv, hd, hA, hsv⟩ := rdB s34 pl (hfb pl hpf)
      refine ⟨_, rfl, _, rfl, B, .ref a, rfl, hd, a, _, 1, _, rfl, rfl, SqT.of hA, rfl, ?_⟩
      have s4 := s3.trans s34
      have hlk : look (wlOf bl) pl = some (d, st) := by rw [wl_look, hv]; rfl
      obtain ⟨e0, he0, he1, hroomy⟩ := hfree pl hpf
      obtain ⟨ch, M0⟩ := Moves.start G I.ways hlk hroomy
      clear hd hA h2 h4 e4
      refine ⟨fun n σ H' => ∃ (pl : Str) (d : Int) (st : Option (Str × Nat)) (sv : V) (gl' ch : List Str) (o6 o7 o8 : Option V), σ = [some (.ref m), some (.int (gl.length : Nat)), some (.ref B), some (.ref L), some (.str pl), some sv, o6, o7, o8] ∧ look (wlOf bl) pl = some (d, st) ∧ StepV H' sv st ∧ Moves (costOf rows) room gl gl.length (look (wlOf bl)) gl' pl ch ∧ H' gd = some (.dK (gkv gl')) ∧ SubX gd H4 H' ∧ n = ch.length,
        ⟨_, pl, d, st, sv, gl, ch, _, _, _, rfl, hlk, hsv, M0, s4 _ _ hg, (Sub.refl _).x, rfl⟩, ?_⟩
      clear hlk hsv M0
      rintro n σ H5 ⟨pl, d, st, sv, gl', ch, o6, o7, o8, rfl, hlk, hsv, M, hg5, sx, rfl⟩
      have mgd : m ≠ gd := fun z => by rw [z, hg] at em; cases em
      have em5 : H5 m = some (.ins (ga K "Market") dxm [("costs", .ref F), ("rooms", .ref r), ("given", .ref gd)]) := sx _ _ mgd (s4 _ _ em)
      refine ⟨_, rfl, _, rfl, ?_⟩
      cases st with
      | none =>
        have : sv = .non := hsv
        subst this
        refine rd_ite (fun z => absurd z (by decide)) (fun _ => ?_)
        have hlen := M.len
        refine ⟨_, rfl, _, rfl, m, _, dxm, _, _, rfl, em5, T.c_Market, T.a_Market_given, rfl, _, rfl, gd, _, rfl, DPut.k (k := Sum.inl (gl.length : Int)) hg5 (szl (by rw [show (gkv gl').length = gl'.length from gkvF_len]; omega)), ?_⟩
        have hnew : putK (gkv gl') (Sum.inl (gl.length : Int)) (V.str pl) = gkv (gl' ++ [pl]) := by rw [← hlen]; exact gkv_new
        refine k _ (gl' ++ [pl]) ((s4.x.trans sx).put) (by rw [upd_same, hnew]) (by rw [List.length_append, hlen]; rfl) ?_
        exact Moves.done U (fun m p a h => R.inU h) rfl G I.ways St M hlk
      | some x =>
        obtain ⟨q, mv⟩ := x
        obtain ⟨b, rfl, eb⟩ := hsv
        refine rd_ite (fun _ => ?_) (fun z => absurd z (by simp))
        obtain ⟨ch', rfl, hgm, M'⟩ := M.step I.ways St hlk
        have hml : mv < gl'.length := (List.getElem?_eq_some_iff.mp hgm).1
        refine ⟨fun σ H' => ∃ (pl : Str) (d : Int) (st : Option (Str × Nat)) (sv : V) (gl'' : List Str) (o6 o7 o8 : Option V), σ = [some (.ref m), some (.int (gl.length : Nat)), some (.ref B), some (.ref L), some (.str pl), some sv, o6, o7, o8] ∧ look (wlOf bl) pl = some (d, st) ∧ StepV H' sv st ∧ Moves (costOf rows) room gl gl.length (look (wlOf bl)) gl'' pl ch' ∧ H' gd = some (.dK (gkv gl'')) ∧ SubX gd H4 H',
          fun σ' H' ⟨pl, d, st, sv, gl'', o6, o7, o8, h1, h2, h3, h4, h5, h6⟩ => ⟨ch'.length, by simp, pl, d, st, sv, gl'', ch', o6, o7, o8, h1, h2, h3, h4, h5, h6, rfl⟩, ?_⟩
        refine ⟨_, rfl, gPair eb ?_⟩
        refine ⟨_, rfl, _, rfl, m, _, dxm, _, _, rfl, em5, T.c_Market, T.a_Market_given, rfl, _, rfl, gd, _, rfl, DPut.k (k := Sum.inl (mv : Int)) hg5 (szl (by rw [show (gkv gl').length = gl'.length from gkvF_len]; have := M.len; omega)), ?_⟩
        have hq : q ∈ bl.map (·.1) := by
          obtain ⟨_, _, _, h1, _⟩ := I.ways.back _ _ _ _ hlk
          rw [← wl_keys]
          exact look_key.mpr ⟨_, _, h1⟩
        have sx6 : SubX gd H4 (upd H5 gd (.dK (putK (gkv gl') (Sum.inl (mv : Int)) (V.str pl)))) := sx.put
        have Bgd : B ≠ gd := fun z => by rw [z, s1 _ _ hg] at eB; cases eB
        obtain ⟨⟨a2, d2, st2⟩, hv2⟩ := aGet_some hq
        have hb6 : BestAt (upd H5 gd (.dK (putK (gkv gl') (Sum.inl (mv : Int)) (V.str pl)))) bl := sx6.best (s4 _ _ hg) (s34.best hb3)
        obtain ⟨sv2, hA2, hs2⟩ := hb6 _ (aGet_mem hv2)
        have eB6 := sx6 _ _ Bgd (s34 _ _ eB3)
        refine ⟨_, rfl, ?_⟩
        refine ⟨_, rfl, _, rfl, B, .ref a2, rfl, (by have := dget_r (.inr ⟨oB, eB6⟩) q; rwa [hv2] at this), a2, _, 1, _, rfl, rfl, SqT.of hA2, rfl, ?_⟩
        refine ⟨q, d2, st2, sv2, gl'.set mv pl, _, _, _, rfl, by rw [wl_look, hv2]; rfl, hs2, M', ?_, sx6⟩
        rw [upd_same, gkv_set hml]
end
end K31
set_option Elab.async false
set_option linter.all false
set_option maxRecDepth 100000
set_option maxHeartbeats 4000000
namespace K31
open PySem PySem.Spec PyProof.Rows L2 He
open C8 (Cal Met Mak pe_c pe_mk pe_mt pe_mt0 pe_gc)
section
variable {P : Program} {w : World} {K : PySem.W.Frag} {mg : Str → Option Value} {base : Heap}
theorem walkR {n : Nat} : Walk (Itr 0 n) (List.range n).length (fun _ => True) (YFn fun i => (fun m : Nat => V.int (m : Int)) ((List.range n).getD i default)) := by
  have w := walk_range (lo := 0) (n := n)
  rw [List.length_range]
  refine w.mono (fun _ h => h) fun i H x H' hi _ y => ⟨y.1, ?_⟩
  have := y.2
  rw [this]
  show V.int (0 + (i : Int)) = V.int (((List.range n).getD i default : Nat) : Int)
  rw [List.getD_eq_getElem?_getD, List.getElem?_range hi, Int.zero_add]
  rfl
/-! ### priced -/
def sp_Market_priced (K : PySem.W.Frag) : Sp := fun vs H Q _ => ∃ (m F r gd : Addr) (gl : List Str) (rows : Rows) (rl : List (Str × Int)) (room : Str → Nat), vs = [.ref m] ∧ MktAt K H m F r gd ∧ H gd = some (.dK (gkv gl)) ∧ gl.length ≤ 60 ∧ CostsAt H F rows ∧ RowsOk rows (rl.map (·.1)) ∧
  FDf V.int H r rl ∧ Good (costOf rows) room gl ∧ ∀ (q : Addr) (H' : Hp) (l : List (Str × Int)), H q = none → Sub H H' → H' q = some (.dK (kS V.int l)) → Q (.ref q) H'
abbrev n_Market_priced : List Str := ["self", "found", "is_stable", "place", "other", "cost", "mover"]
theorem sc_Market_priced : FnScope n_Market_priced ["self"] (defScope mMarket_priced) := ⟨rfl, rfl, rfl, by decide +kernel, rfl, by decide +kernel, by decide +kernel⟩
theorem ok_Market_priced (T : Txt K mg) : Met P w K mg base 3 (ga K "Market") "priced" (sp_Market_priced K) [] := by
  refine met_of T.f_Market_priced T.c_Market T.m_Market_priced sc_Market_priced (fun vs H Q E h => ?_) (fun _ _ _ _ _ _ us hl => match us, hl with | [_], _ => rfl) (fun f cdv A outer s H vs Q E hr h => ?_)
  · obtain ⟨m, F, r, gd, gl, rows, rl, room, rfl, _⟩ := h
    rfl
  · obtain ⟨m, F, r, gd, gl, rows, rl, room, rfl, hm, hg, h60, hc, R, hrl, G, k⟩ := h
    have hu := hu_of hr
    obtain ⟨π, Pt⟩ := G.pot
    obtain ⟨orl, erl⟩ := id hrl
    obtain ⟨dxm, em⟩ := id hm
    have hU13 := R.ulen
    rw [List.length_map] at hU13
    refine ⟨_, (pss_cons (ps_setDc (i := 1) (own := [("place", 3)]) (g := (gName 3)) (tt := tYes) (tk := (tVar 3)) (tv := (tC (.int 0))) rfl sc_Market_priced.nd rfl rfl (sw_trueD rfl rfl rfl (by decide +kernel)) (pi_keys (pe_fld (pv 0) rfl)) (blkOk_by (N := n_Market_priced) (sc := defScope mMarket_priced) (by decide +kernel)) (fun _ _ _ _ _ => (pg_name (i := 3) sc_Market_priced.nd rfl (.inl rfl))) (fun _ _ _ _ _ => pts_nil) (fun _ _ _ _ _ => (pv 3)) (fun _ _ _ _ _ => pe_int))
  (pss_cons (ps_set (i := 2) sc_Market_priced.nd rfl (.inl rfl) pe_bl)
  (pss_cons (ps_while PassesOwn.never (pt_not (pt_val (pv 2)))
  (pss_cons (ps_set (i := 2) sc_Market_priced.nd rfl (.inl rfl) pe_bl)
  (pss_one (ps_for PassesOwn.never rfl (pi_keys (pe_fld (pv 0) rfl)) (pg_name (i := 3) sc_Market_priced.nd rfl (.inl rfl))
  (pss_one (ps_for PassesOwn.never rfl (pi_items (pe_mt (ok_Market_extra T) hr (by decide) (pv 0) (pa_cons (pv 3) pa_nil))) (pg_tup (n := 2) rfl (pgs_cons (pg_name (i := 4) sc_Market_priced.nd rfl (.inl rfl)) (pgs_cons (pg_tup (n := 2) rfl (pgs_cons (pg_name (i := 5) sc_Market_priced.nd rfl (.inl rfl)) (pgs_cons (pg_name (i := 6) sc_Market_priced.nd rfl (.inl rfl)) pgs_nil))) pgs_nil)))
  (pss_one (ps_if (pt_cmpR op_lt (pe_op op_add (pe_dget hu (pv 1) (pv 4) (fun _ _ => rfl)) (pv 5)) (pe_dget hu (pv 1) (pv 3) (fun _ _ => rfl)) (nomark _)) (pss_cons (ps_dput hu (pv 1) (pv 3) (pe_op op_add (pe_dget hu (pv 1) (pv 4) (fun _ _ => rfl)) (pv 5)) rfl)
  (pss_one (ps_set (i := 2) sc_Market_priced.nd rfl (.inl rfl) pe_bl))) pss_nil))))))))
  (pss_one (ps_ret (pv 1)))))), ?_⟩
    refine ⟨_, rfl, m, _, dxm, _, _, rfl, em, T.c_Market, T.a_Market_rooms, rfl, r, orl, rfl, .inl ⟨_, erl, ?_⟩⟩
    refine k_dcD (data := rl) (toV := fun e : Str × Int => V.str e.1) (walkK (g := V.int) (l := rl)) (fun H' s => s _ _ erl) (fun _ => true) (fun e => e.1) V.int (fun _ => 0) (by omega) (by rw [List.filter_eq_self.mpr fun _ _ => rfl]; exact R.und) (fun _ _ _ _ _ => evB_yes) (fun i e H' _ _ s Q q => ⟨_, rfl, q _ _ (Sub.refl _) rfl⟩) (fun i e H' _ _ s Q q => q _ _ (Sub.refl _) rfl) (fun C H1 nC s1 e1 => ?_)
    have e1 : H1 C = some (.dK (kS V.int (fnL (rl.map (·.1)) fun _ => 0))) := by
      rw [e1, List.filter_eq_self.mpr fun _ _ => rfl]
      unfold fnL
      rw [List.map_map]
      rfl
    generalize hU : rl.map (·.1) = U at R e1
    obtain ⟨lo, hlo⟩ := bound_list (fun p => -(π p)) U
    have hP0 : PrOk (fun _ => 0) π (-lo) U := fun p hp => by have := hlo p hp; show -lo ≤ (0 : Int) + π p; omega
    obtain ⟨B, hB⟩ := bound_list (fun p => π p) U
    have low : ∀ {f : Str → Int}, PrOk f π (-lo) U → ∀ p ∈ U, 0 ≤ f p + (lo + B) := fun hf p hp => by
      have h1 := hf p hp
      have h2 := hB p hp
      omega
    refine ⟨fun n σ H' => ∃ (st : Bool) (f : Str → Int) (o3 o4 o5 o6 : Option V), σ = [some (.ref m), some (.ref C), some (.bl st), o3, o4, o5, o6] ∧ Sub H H' ∧ H' C = some (.dK (kS V.int (fnL U f))) ∧ PrOk f π (-lo) U ∧ n = if st = true then 0 else prMeas f (lo + B) U + 1,
      ⟨_, false, _, _, _, _, _, rfl, s1, e1, hP0, rfl⟩, ?_⟩
    rintro n σ H2 ⟨st, f0, o3, o4, o5, o6, rfl, s2, eC, hP, rfl⟩
    refine ⟨_, rfl, st, rfl, ?_⟩
    cases st with
    | true =>
      refine rd_ite (fun z => nomatch z) (fun _ => ?_)
      exact ⟨_, rfl, k C H2 _ nC s2 eC⟩
    | false =>
      refine rd_ite (fun _ => ?_) (fun z => nomatch z)
      refine ⟨fun σ H' => ∃ (st : Bool) (f : Str → Int) (o3 o4 o5 o6 : Option V), σ = [some (.ref m), some (.ref C), some (.bl st), o3, o4, o5, o6] ∧ Sub H H' ∧ H' C = some (.dK (kS V.int (fnL U f))) ∧ PrOk f π (-lo) U ∧ (st = false → prMeas f (lo + B) U < prMeas f0 (lo + B) U),
        fun σ' H' ⟨st, f, o3, o4, o5, o6, h1, h2, h3, h4, h5⟩ => ⟨_, ?_, st, f, o3, o4, o5, o6, h1, h2, h3, h4, rfl⟩, ?_⟩
      · cases st with
        | true => simp
        | false => have := h5 rfl; simp; omega
      obtain ⟨dx2, em2⟩ := s2.mkt hm
      refine ⟨_, rfl, m, _, dx2, _, _, rfl, em2, T.c_Market, T.a_Market_rooms, rfl, r, orl, rfl, .inl ⟨_, s2 _ _ erl, ?_⟩⟩
      refine for_it (walkK (g := V.int) (l := rl)) (fun i σ H' => ∃ (st : Bool) (f : Str → Int) (o3 o4 o5 o6 : Option V), σ = [some (.ref m), some (.ref C), some (.bl st), o3, o4, o5, o6] ∧ Sub H H' ∧ H' C = some (.dK (kS V.int (fnL U f))) ∧ PrOk f π (-lo) U ∧ (st = true → f = f0) ∧ (st = false → prMeas f (lo + B) U < prMeas f0 (lo + B) U))
        ⟨true, f0, _, _, _, _, rfl, s2, eC, hP, fun _ => rfl, (fun z => nomatch z)⟩ (fun i σ H' _ ⟨_, _, _, _, _, _, _, s, _⟩ => s _ _ erl) ?_ (fun σ H' ⟨st, f, o3, o4, o5, o6, h1, h2, h3, h4, _, h5⟩ => ⟨st, f, o3, o4, o5, o6, h1, h2, h3, h4, h5⟩)
      rintro i x σ H3 H4 hi ⟨st, f, o3, o4, o5, o6, rfl, s3, eC3, hP3, ht3, hf3⟩ ⟨ez, ey⟩
      subst ez
      have : x = V.str rl[i].1 := ey.trans (get_D (f := fun e : Str × Int => V.str e.1) hi)
      subst this
      have hpU : rl[i].1 ∈ U := by rw [← hU]; exact List.mem_map.mpr ⟨_, List.getElem_mem hi, rfl⟩
      generalize rl[i].1 = pl at hpU ⊢
      obtain ⟨dx3, em3⟩ := s3.mkt hm
      refine ⟨_, rfl, m, dx3, _, rfl, em3, rfl, _, rfl, ?_⟩
      refine ⟨m, F, r, gd, pl, gl, rows, U, rfl, ⟨dx3, em3⟩, s3 _ _ hg, h60, s3.costs hc, R, G.may, fun x H6 el n6 s36 e6 ea ex => ?_⟩
      obtain ⟨ox, exx⟩ := e6
      have eC6 := s36 _ _ eC3
      have xC : x ≠ C := fun z => by rw [z, eC6] at exx; cases exx
      refine ⟨x, ox, _, rfl, exx, ?_⟩
      refine for_it (walkI (g := elV) (l := el)) (fun j σ H' => ∃ (st : Bool) (f : Str → Int) (o4 o5 o6 : Option V), σ = [some (.ref m), some (.ref C), some (.bl st), some (.str pl), o4, o5, o6] ∧ Sub H H' ∧ SubX C H6 H' ∧ H' C = some (.dK (kS V.int (fnL U f))) ∧ PrOk f π (-lo) U ∧ (st = true → f = f0) ∧ (st = false → prMeas f (lo + B) U < prMeas f0 (lo + B) U))
        ⟨st, f, _, _, _, rfl, s3.trans s36, (Sub.refl _).x, eC6, hP3, ht3, hf3⟩ (fun j σ H' _ ⟨_, _, _, _, _, _, _, s, _⟩ => s _ _ xC exx) ?_ (fun σ H' ⟨st, f, o4, o5, o6, h1, h2, _, h3, h4, h5, h6⟩ => ⟨st, f, _, o4, o5, o6, h1, h2, h3, h4, h5, h6⟩)
      clear hP3 ht3 hf3 eC3
      rintro j x σ H7 H8 hj ⟨st, f, o4, o5, o6, rfl, s7, sx7, eC7, hP7, ht7, hf7⟩ ⟨t, x1, x2, rfl, hn1, rfl, eu, ev⟩
      replace eu : (el[j]?).map (fun e : Str × (Addr × Int × Nat) => V.str e.1) = some x1 := eu
      replace ev : (el[j]?).map (fun e : Str × (Addr × Int × Nat) => elV e.2) = some x2 := ev
      rw [List.getElem?_eq_getElem hj] at eu ev
      have hme : el[j] ∈ el := List.getElem_mem hj
      have hT := ea _ hme
      have hE := ex.edge _ hme
      cases eu
      cases ev
      generalize el[j] = e at hme hT hE ⊢
      obtain ⟨o, ta, w1, mv⟩ := e
      have s78 : Sub H7 (upd H7 t (.tup [.str o, elV (ta, w1, mv)])) := Sub.new hn1
      have e8 : (upd H7 t (.tup [.str o, elV (ta, w1, mv)])) t = some (.tup [.str o, .ref ta]) := upd_same
      generalize upd H7 t (.tup [.str o, elV (ta, w1, mv)]) = H8 at s78 e8 ⊢
      have hT6 : H6 ta = some (.tup [.int w1, .int (mv : Nat)]) := hT
      have taC : ta ≠ C := fun z => by rw [z, eC6] at hT6; cases hT6
      have hT8 : H8 ta = some (.tup [.int w1, .int (mv : Nat)]) := s78 _ _ (sx7 _ _ taC hT6)
      refine ⟨t, _, rfl, SqT.of e8, rfl, _, _, rfl, _, _, rfl, ⟨ta, _, rfl, SqT.of hT8, rfl, _, _, rfl, _, _, rfl, rfl, rfl, ?_⟩⟩
      have eC8 := s78 _ _ eC7
      have s8 := s7.trans s78
      have sx8 := sx7.trans (s78.x (C := C))
      have hE : Edge (costOf rows) gl pl o w1 mv := hE
      have hoU : o ∈ U := by
        obtain ⟨_, _, _, _, h1, _⟩ := hE
        exact R.inU h1
      have rdC : ∀ p ∈ U, DGet H8 C (.str p) (some (.int (f p))) := fun p hp => by have := dget_d eC8 p; rwa [fnL_get hp] at this
      refine ⟨_, rfl, _, rfl, C, _, rfl, rdC o hoU, _, rfl, _, _, rfl, rfl, _, rfl, _, rfl, C, _, rfl, rdC pl hpU, _, _, rfl, rfl, _, rfl, ?_⟩
      refine rd_ite (fun hl => ?_) (fun _ => ⟨st, f, _, _, _, rfl, s8, sx8, eC8, hP7, ht7, hf7⟩)
      have hl : f o + w1 < f pl := of_decide_eq_true hl
      refine ⟨_, rfl, _, rfl, C, _, rfl, rdC o hoU, _, rfl, _, _, rfl, rfl, _, rfl, _, rfl, C, _, rfl, dput_d (f := V.int) eC8 pl (f o + w1) (by rw [fnL, List.length_map, ← hU, List.length_map]; omega), ?_⟩
      have hP' := hP7.step Pt hE hoU
      refine ⟨false, _, _, _, _, rfl, s8.mut nC, sx8.put, by rw [upd_same, fnL_put hpU], hP', (fun z => nomatch z), fun _ => ?_⟩
      have h1 := low hP' pl hpU
      rw [if_pos rfl] at h1
      have h2 := prMeas_lt (f := f) (L := lo + B) (pl := U) (q := pl) (v := f o + w1) hpU hl h1
      cases st with
      | true => rw [ht7 rfl] at h2 ⊢; exact h2
      | false => exact Nat.lt_trans h2 (hf7 rfl)

/-! ### Market(costs, rooms) -/
def sp_Market_init (K : PySem.W.Frag) : Sp := fun vs H Q _ => ∃ (p : Addr) (x y : V), vs = [.ref p, x, y] ∧ (∃ dx, H p = some (.ins (ga K "Market") dx [])) ∧ ∀ (H' : Hp) (gd : Addr), H gd = none → (∀ b o, b ≠ p → H b = some o → H' b = some o) → (∃ dx, H' p = some (.ins (ga K "Market") dx [("costs", x), ("rooms", y), ("given", .ref gd)])) → H' gd = some (.dK []) → Q .non H'
abbrev n_Market_init : List Str := ["self", "costs", "rooms"]
theorem sc_Market_init : FnScope n_Market_init ["self", "costs", "rooms"] (defScope mMarket_init) := ⟨rfl, rfl, rfl, by decide +kernel, rfl, by decide +kernel, by decide +kernel⟩
theorem mk_Market (T : Txt K mg) : Mak P w K mg base 1 "Market" (ga K "Market") (sp_Market_init K) [] := by
  refine mak_of T.f_Market_init T.k_Market T.g_Market sc_Market_init (fun vs H Q E h => ?_) (fun _ _ _ _ _ _ us hl => match us, hl with | [_, _, _], _ => rfl) (fun f cdv A outer s H vs Q E hr h => ?_)
  · obtain ⟨p, x, y, rfl, _⟩ := h
    rfl
  · obtain ⟨p, x, y, rfl, ⟨dx, hp⟩, k⟩ := h
    refine ⟨_, (pss_cons (ps_fld (pv 0) (pv 1) rfl)
  (pss_cons (ps_fld (pv 0) (pv 2) rfl)
  (pss_one (ps_fld (pv 0) pe_dnewK rfl)))), ?_⟩
    refine ⟨_, rfl, _, rfl, p, _, dx, _, rfl, hp, T.c_Market, T.a_Market_costs, by show 0 < 1000; decide, ?_⟩
    refine ⟨_, rfl, _, rfl, p, _, dx, _, rfl, upd_same, T.c_Market, T.a_Market_rooms, by show 1 < 1000; decide, ?_⟩
    refine fun gd ng => ?_
    have ngp : gd ≠ p := fun z => by rw [z, upd_same] at ng; cases ng
    have ng' : H gd = none := by rw [upd_ne ngp, upd_ne ngp] at ng; exact ng
    refine ⟨_, rfl, p, _, dx, _, rfl, (upd_ne ngp.symm).trans upd_same, T.c_Market, T.a_Market_given, by show 2 < 1000; decide, ?_⟩
    refine k _ gd ng' (fun b o hb e => ?_) ⟨dx, upd_same⟩ ((upd_ne ngp).trans upd_same)
    rw [upd_ne hb, upd_ne (ne_of_none e ng'), upd_ne hb, upd_ne hb]
    exact e

/-! ### cheapest -/
def sp_cheapest (K : PySem.W.Frag) : Sp := fun vs H Q E => ∃ (F r : Addr) (rows : Rows) (rl : List (Str × Int)) (room : Str → Nat), vs = [.ref F, .ref r] ∧ CostsAt H F rows ∧ RowsOk rows (rl.map (·.1)) ∧ FDf V.int H r rl ∧ (∀ p ∈ rl.map (·.1), aGet rl p = some (room p : Int)) ∧
  (∀ (t L D : Addr) (H' : Hp) (gl : List Str) (l : List (Str × Int)), H t = none → Sub H H' → H' t = some (.tup [.ref L, .ref D]) → H' L = some (.lst (gl.map V.str)) → H' D = some (.dK (kS V.int l)) → gl.length = rows.length → Good (costOf rows) room gl → Q (.ref t) H') ∧
  (∀ (H' : Hp) (d q : Addr) (S : List Nat), Sub H H' → H' d = some (.xd [("users", .ref q)]) → H' q = some (.tup (S.map fun i => .int (i : Nat))) → Asc S → S ≠ [] → (∀ u ∈ S, u < rows.length) → tooMany (rl.map (·.1)) room (costOf rows) S = true → E (.ref (ga K "Crowded")) (some d) H')
abbrev n_cheapest : List Str := ["costs", "rooms", "market", "user"]
theorem sc_cheapest : FnScope n_cheapest ["costs", "rooms"] (defScope scheapest) := ⟨rfl, rfl, rfl, by decide +kernel, rfl, by decide +kernel, by decide +kernel⟩
theorem ok_cheapest (T : Txt K mg) : CalX P w K mg base 5 "cheapest" (sp_cheapest K) := by
  refine calX_of T.f_cheapest T.g_cheapest sc_cheapest (fun vs H Q E h => ?_) (fun _ _ _ _ _ _ us hl => match us, hl with | [_, _], _ => rfl) (fun f cdv A outer s H vs Q E hr h => ?_)
  · obtain ⟨F, r, rows, rl, room, rfl, _⟩ := h
    rfl
  · obtain ⟨F, r, rows, rl, room, rfl, hc, R, hrl, hroom, k, ke⟩ := h
    have hu := hu_of hr
    have h60 := R.len
    have htk : Takes (cxOf (L2.CX P w) P w K mg base n_cheapest "cheapest" (defScope scheapest) f cdv A outer s H E) (fun cls d _ H => E cls d H) := takes_of rfl rfl rfl rfl
    refine ⟨_, (pss_cons (ps_set (i := 2) sc_cheapest.nd rfl (.inr rfl) (pe_mk (mk_Market T) hr (by decide) rfl (pa_cons (pv 0) (pa_cons (pv 1) pa_nil))))
  (pss_cons (ps_for (passes_of rfl) rfl (pi_range1 rfl T.n_range (pa_cons (pe_callB c_lenL rfl T.n_len (by decide +kernel) (pa_cons (pv 0) pa_nil)) pa_nil)) (pg_name (i := 3) sc_cheapest.nd rfl (.inl rfl))
  (pss_one (ps_expr (pe_mtX (ok_Market_enter T) htk hr (by decide) (pv 2) (pa_cons (pv 3) pa_nil)))))
  (pss_one (ps_ret (pe_tup (pa_cons (pe_lc (own := [("user", 3)]) (g := (gName 3)) (tt := tYes) (te := (tDGet (tFld K (tVar 2) "given") (tVar 3))) rfl sc_cheapest.nd (pi_range1 rfl T.n_range (pa_cons (pe_callB c_lenL rfl T.n_len (by decide +kernel) (pa_cons (pv 0) pa_nil)) pa_nil)) (blkOk_by (N := n_cheapest) (sc := defScope scheapest) (by decide +kernel)) (fun _ _ _ _ _ => (pg_name (i := 3) sc_cheapest.nd rfl (.inl rfl))) (fun _ _ _ _ _ => pts_nil) (fun _ _ _ _ _ => (pe_dget hu (pe_fld (pv 2) rfl) (pv 3) (fun _ _ => rfl)))) (pa_cons (pe_mt0 (ok_Market_priced T) hr (by decide) (pv 2)) pa_nil))))))), ?_⟩
    refine ⟨_, rfl, _, rfl, fun m dx nm nd ne => ?_⟩
    have s0 : Sub H (upd (upd H dx (.own m)) m (.ins (ga K "Market") dx [])) := (Sub.new nd).mut nm
    refine ⟨m, .ref F, .ref r, rfl, ⟨dx, upd_same⟩, fun H1 gd ng h1 h2 h3 => ⟨rfl, ?_⟩⟩
    have s1 : Sub H H1 := fun b o e => h1 b o (ne_of_none e nm) (s0 b o e)
    have ng' : H gd = none := s0.fresh ng
    obtain ⟨cs, ec1, ec2, ec3⟩ := hc.ex
    have hlen : (cs.map fun e => V.ref e.1).length = rows.length := by rw [List.length_map, ← ec2, List.length_map]
    refine ⟨_, rfl, F, _, rfl, .inl (SqL.of (s1 _ _ ec1)), ⟨_, rfl, by rw [hlen]; omega, by rw [hlen]; omega, ?_⟩⟩
    rw [hlen]
    have kp : ∀ {H' : Hp}, SubX gd H1 H' → Sub H H' := fun sx b o e => sx b o (ne_of_none e ng') (s1 b o e)
    have mgd : m ≠ gd := fun z => by obtain ⟨_, h2⟩ := h2; rw [z, h3] at h2; cases h2
    refine for_it (walkR (n := rows.length)) (fun i σ H' => ∃ (o3 : Option V) (gl : List Str), σ = [some (.ref F), some (.ref r), some (.ref m), o3] ∧ SubX gd H1 H' ∧ H' gd = some (.dK (gkv gl)) ∧ gl.length = i ∧ Good (costOf rows) room gl) ⟨_, [], rfl, (Sub.refl _).x, h3, rfl, Good.nil⟩ (fun _ _ _ _ _ => True.intro) ?_ (fun σ H2 ⟨o3, gl, hσ, sx, hg, hl, G⟩ => ?_)
    · rintro i x σ H2 H3 hi ⟨o3, gl, rfl, sx, hg, hl, G⟩ ⟨ez, ey⟩
      subst ez
      have : x = V.int (i : Int) := by
        rw [ey.trans (get_D (f := fun m : Nat => V.int (m : Int)) hi), List.getElem_range]
      subst this
      obtain ⟨dxm, em⟩ := h2
      have em2 := sx _ _ mgd em
      have s2 := kp sx
      rw [List.length_range] at hi
      refine ⟨_, rfl, m, dxm, _, rfl, em2, rfl, _, rfl, ?_⟩
      refine ⟨m, F, r, gd, gl, rows, _, rl, room, by rw [hl]; rfl, ⟨dxm, em2⟩, hg, by omega, s2.costs hc, R, s2.f hrl, hroom, G, fun H4 gl' sx4 hg4 hl4 G4 => ?_, fun H4 d q S s4 => ke H4 d q S (s2.trans s4)⟩
      exact ⟨_, gl', rfl, sx.trans sx4, hg4, by omega, G4⟩
    · subst hσ
      rw [List.length_range] at hl
      obtain ⟨dxm, em⟩ := h2
      have em2 := sx _ _ mgd em
      have s2 := kp sx
      refine ⟨_, rfl, F, _, rfl, .inl (SqL.of (s2 _ _ ec1)), ⟨_, rfl, by rw [hlen]; omega, by rw [hlen]; omega, ?_⟩⟩
      rw [hlen]
      refine k_lcD (data := List.range rows.length) (toV := fun m : Nat => V.int (m : Int)) (walkR (n := rows.length)) (fun _ _ => True.intro) (fun _ => true) (fun i => V.str (gl.getD i default)) (by rw [List.length_range]; omega) (fun _ _ _ _ _ => evB_yes) (fun i d H' hd _ s' Q' q' => ?_) (fun L H3 n3 s3 e3 => ?_)
      · have hdl : d < gl.length := by rw [hl]; exact List.mem_range.mp (List.mem_of_getElem? hd)
        refine ⟨_, rfl, m, _, dxm, _, _, rfl, s' _ _ em2, T.c_Market, T.a_Market_given, rfl, _, rfl, gd, .str gl[d], rfl, .inl ⟨_, Sum.inl (d : Int), .inl (s' _ _ hg), rfl, ?_⟩, q' _ _ (Sub.refl _) ?_⟩
        · rw [gkv_val, List.getElem?_eq_getElem hdl]; rfl
        · rw [List.getD_eq_getElem?_getD, List.getElem?_eq_getElem hdl]; rfl
      have e3 : H3 L = some (.lst (gl.map V.str)) := by
        rw [e3, List.filter_eq_self.mpr fun _ _ => rfl, ← hl]
        congr 2
        refine List.ext_getElem? fun i => ?_
        by_cases hi : i < gl.length
        · rw [List.getElem?_map, List.getElem?_range hi, List.getElem?_map, List.getElem?_eq_getElem hi]
          show some (V.str (gl.getD i default)) = some (V.str gl[i])
          rw [List.getD_eq_getElem?_getD, List.getElem?_eq_getElem hi]; rfl
        · rw [List.getElem?_eq_none (by simp; omega), List.getElem?_eq_none (by simp; omega)]
      have em3 := s3 _ _ em2
      have s23 := s2.trans s3
      refine ⟨_, rfl, m, dxm, _, rfl, em3, rfl, ?_⟩
      refine ⟨m, F, r, gd, gl, rows, rl, room, rfl, ⟨dxm, em3⟩, s3 _ _ hg, by omega, s23.costs hc, R, s23.f hrl, G, fun D H4 l n4 s4 e4 => ⟨sz (by simp), fun t nt => ?_⟩⟩
      have s24 := s23.trans s4
      exact k t L D _ gl l (s24.fresh nt) (s24.trans (Sub.new nt)) upd_same ((Sub.new nt) _ _ (s4 _ _ e3)) ((Sub.new nt) _ _ e4) hl G
end
end K31
set_option Elab.async false
set_option linter.all false
set_option maxRecDepth 100000
set_option maxHeartbeats 4000000
/-! defs with a star parameter and a keyword-only one behind it. -/
namespace K31
open PySem PySem.Spec PyProof.Rows L2 He StX
/-- the promise of a def at f for calls with keywords named ks -/
def FnKw (P : Program) (w : World) (K : PySem.W.Frag) (mg : Str → Option Value) (base : Heap) (CX : CXT) (k : Nat) (f : Addr) (ks : List Str) (sp : List V → List V → Hp → VK → XK → Prop) : Prop :=
  ∀ (A : Around) (outer : List Env) (s : Shared) (H : Hp) (us ws : List Value) (vs zs : List V) (Q : VK) (E : XK), Room k A → Env0 P w K mg base A outer s H → Vals vs us → Vals zs ws → sp vs zs H Q E →
    codeAny (model P w) A (.call (.ref f) ⟨us, ks.zip ws⟩) (CR CX outer P w H s Q E) s
section
variable {CX : CXT} {P : Program} {w : World} {K : PySem.W.Frag} {mg : Str → Option Value} {base : Heap} {k : Nat} {f : Addr} {name qual : Str} {params : Arguments} {body : List Stmt} {scope : Scope} {dV kV doc pm cdv ct oc : Value} {an od : Option Addr}
  {osl : Array (Option Value)} {N ps ks : List Str} {sp : Sp} {pv : Str} {G : List V → List V → List V → List V → Prop}
theorem fn_kw (lk : K.lookup f = some ⟨oc, od, .func (PySem.W.fnOf name qual params body scope dV kV doc pm an cdv ct), osl⟩) (hcd : PySem.W.codeIn K cdv qual = true) (S : FnScope N (ps ++ [pv]) scope) (hCX : CXUp CX)
    (bnd : ∀ (s : Shared) (us ws : List Value) (vs zs gs rv : List V), K.In s.heap → Vals vs us → Vals zs ws → G vs zs gs rv → gs.length = ps.length ∧ rv.length ≤ sizeLine ∧ ∃ gu ru : List Value, Vals gs gu ∧ Vals rv ru ∧
      ∀ (A' : Around) (Q : List (Str × Value) → Shared → Prop) (Ex : Value → Shared → Prop), wpAny (model P w) A' (newTuple ru >>= fun t => pure (ps.zip gu ++ [(pv, t)])) Q Ex s → wpAny (model P w) A' (bindArgs (PySem.W.fnOf name qual params body scope dV kV doc pm an cdv ct) ⟨us, ks.zip ws⟩) Q Ex s)
    (hbody : ∀ (A : Around) (outer : List Env) (s : Shared) (H : Hp) (vs : List V) (Q : VK) (E : XK), Room k (A.deeper (envOfC qual scope s.heap.objs.size f cdv)) → sp vs H Q E →
      ∃ t, PSs (cxOf CX P w K mg base N qual scope f cdv A outer s H E) body t ∧ t { nx := fun _ H' => Q .non H', rt := Q } (L2.start N vs) H) :
    FnKw P w K mg base CX (k + 1) f ks (fun vs zs H Q E => ∃ gs rv, G vs zs gs rv ∧ ∀ p, H p = none → sp (gs ++ [V.ref p]) (upd H p (.tup rv)) Q E) := by
  intro A outer s H us ws vs zs Q E hr e0 r rz hsp
  obtain ⟨gs, rv, hG, hq⟩ := hsp
  have KX : K.In s.heap := e0.mod.kin.keeps fun b o e => (e0.bs b o e).1
  obtain ⟨hl, hz, gu, ru, r1, r2, hb⟩ := bnd s us ws vs zs gs rv KX r rz hG
  have hn : H s.heap.objs.size = Option.none := e0.hok.fresh (Nat.le_refl _)
  have hl1 : gu.length = ps.length := by rw [← r1.length]; exact hl
  have hl2 : ru.length ≤ sizeLine := by rw [← r2.length]; exact hz
  refine run_bnd lk hcd S hr e0 (G := fun xs H2 => ∃ p, H p = Option.none ∧ xs = gs ++ [V.ref p] ∧ H2 = upd H p (.tup rv)) (fun A' Ex Q' h => ?_) fun s2 H2 xs ⟨p, hp, ex, eH⟩ hr' => ?_
  · refine hb A' Q' Ex ?_
    refine wpAny_bind (wpAny_newTuple (wpAny_pure ?_) hl2)
    have new : ObjOk P w (upd H s.heap.objs.size (.tup rv)) (s.heap.push ({ cls := .type "tuple", data := .seq ru.toArray } : Obj)) s.heap.objs.size (.tup rv) := ⟨hz, ru, r2, ⟨_, Heap.get?_push_size _ rfl, rfl, _, rfl⟩⟩
    have un := un_laid (fs := frs outer) (s := s) (o := ({ cls := .type "tuple", data := .seq ru.toArray } : Obj)) (u := .tup rv) hn
    have z := h _ _ (gs ++ [V.ref s.heap.objs.size]) (gu ++ [Value.ref s.heap.objs.size]) (env0_laid e0 new) un rfl (fun e s' => hCX outer s H _ _ E e s' un (fun b o q => Heap.get?_push_of_some _ q) rfl) (r1.append (.cons rfl .nil))
      (by rw [List.length_append, List.length_append, hl] <;> rfl) ⟨_, hn, rfl, rfl⟩
    rw [List.zip_append hl1.symm] at z
    exact z
  · subst ex eH
    exact hbody A outer s2 _ _ Q E hr' (hq p hp)
end
section
variable {X : Cx} {CX : CXT} {k j : Nat} {f : Addr} {ks : List Str} {sp : List V → List V → Hp → VK → XK → Prop} {E : XK} {x : Str} {p pos : Pos} {e : Expr} {es : List Expr} {kws : List Keyword} {t tk : TA}
theorem run_kw {pins : List (Addr × Obj)} {σ : L2.St} {H : Hp} {s : Shared} {Q : VK} {us ws : List Value} {vs zs : List V} (F : FnKw X.prog X.w X.K X.mg X.base CX k f ks sp) (hr : Room k X.A) (hx : Passes CX X E) (I : Inv X pins σ H s) (r : Vals vs us) (rz : Vals zs ws) (h : sp vs zs H Q E) :
    wpAny (model X.prog X.w) X.A (call (.ref f) us (ks.zip ws)) (EP X pins σ Q) X.xe s := by
  refine wpAny_call (codeAny_mono (F X.A X.stack s H us ws vs zs Q E hr I.env0 r rz h) fun r s' hq => ?_)
  cases r with
  | error e => exact hx pins σ H s e s' I hq
  | ok fl =>
    cases fl with
    | ret u => exact I.after hq
    | next => exact False.elim hq
    | brk => exact False.elim hq
    | cont => exact False.elim hq
def tKw (sp : List V → List V → Hp → VK → XK → Prop) (E : XK) (t tk : TA) : TE := fun σ H Q => t σ H fun vs H1 => tk σ H1 fun zs H2 => sp vs zs H2 Q E
/-- f(e, .., k = v, ..) -/
theorem pe_kw (F : FnKw X.prog X.w X.K X.mg X.base CX k f ks sp) (hr : Room j X.A) (hj : k ≤ j) (hg : Gl X x) (hm : X.mg x = some (.ref f)) (hk : PySem.W.keepIn X.K (.ref f) = true) (hx : Passes CX X E)
    (ha : PA X (e :: es) t) (hkw : PK X kws tk) (hall : (backToKw pos (keywordEach kws X.env)).all (·.1.isSome) = true := by rfl) (hks : (backToKw pos (keywordEach kws X.env)).filterMap (·.1) = ks := by rfl)
    (hdb : (x == ("__debug__" : Str)) = false := by decide) (he : starEach (e :: es) X.env = (false, eval e X.env) :: starEach es X.env := by rfl)
    (hpl : ((backTo pos (starEach (e :: es) X.env)).any (·.1) || (backToKw pos (keywordEach kws X.env)).any (·.1.isNone)) = false := by rfl) :
    PE X (.Call (.Name x p) (e :: es) kws pos) (tKw sp E t tk) := by
  refine ⟨fun pins s σ H Q I h => ?_⟩
  refine wpAny_Call_Name_kw (ld_glob I hg hm ?_ hdb)
  refine PySem.W.callWith_KW (h₀ := X.base) I.ok.mod.kin hk hall (thn (ha.run pos pins s σ H _ I h) fun us s1 ⟨vs, H1, I1, r, q⟩ => ?_) hpl he
  refine thn (hkw.run pos pins s1 σ H1 _ I1 q) fun ws s2 ⟨zs, H2, I2, rz, q2⟩ => ⟨I2.kIn, ?_⟩
  rw [hks]
  exact run_kw F (hr.mono hj) hx I2 r rz q2
/-- f(e, ..) -/
theorem pe_kwN (F : FnKw X.prog X.w X.K X.mg X.base CX k f [] sp) (hr : Room j X.A) (hj : k ≤ j) (hg : Gl X x) (hm : X.mg x = some (.ref f)) (hk : PySem.W.keepIn X.K (.ref f) = true) (hx : Passes CX X E)
    (ha : PA X (e :: es) t) (hdb : (x == ("__debug__" : Str)) = false := by decide) (he : starEach (e :: es) X.env = (false, eval e X.env) :: starEach es X.env := by rfl) (hpl : (backTo pos (starEach es X.env)).any (·.1) = false := by rfl) :
    PE X (.Call (.Name x p) (e :: es) [] pos) (tKw sp E t tNil) := by
  refine ⟨fun pins s σ H Q I h => ?_⟩
  refine wpAny_Call_Name_kw (ld_glob I hg hm ?_ hdb)
  refine PySem.W.callWith_K (h₀ := X.base) I.ok.mod.kin hk (thn (ha.run pos pins s σ H _ I h) fun us s1 ⟨vs, H1, I1, r, q⟩ => ⟨I1.kIn, ?_⟩) he hpl
  exact run_kw (ws := []) F (hr.mono hj) hx I1 r .nil q
/-- f(k = v, ..) -/
theorem pe_kw0 (F : FnKw X.prog X.w X.K X.mg X.base CX k f ks sp) (hr : Room j X.A) (hj : k ≤ j) (hg : Gl X x) (hm : X.mg x = some (.ref f)) (hk : PySem.W.keepIn X.K (.ref f) = true) (hx : Passes CX X E)
    (hkw : PK X kws tk) (hall : (backToKw pos (keywordEach kws X.env)).all (·.1.isSome) = true := by rfl) (hks : (backToKw pos (keywordEach kws X.env)).filterMap (·.1) = ks := by rfl)
    (hdb : (x == ("__debug__" : Str)) = false := by decide) (hpl : ((backTo pos (starEach [] X.env)).any (·.1) || (backToKw pos (keywordEach kws X.env)).any (·.1.isNone)) = false := by rfl) :
    PE X (.Call (.Name x p) [] kws pos) (tKw sp E tNil tk) := by
  refine ⟨fun pins s σ H Q I h => ?_⟩
  refine wpAny_Call_Name_kw (ld_glob I hg hm ?_ hdb)
  refine PySem.W.callWith_KW0 (h₀ := X.base) I.ok.mod.kin hk hall (thn (hkw.run pos pins s σ H _ I h) fun ws s2 ⟨zs, H2, I2, rz, q2⟩ => ⟨I2.kIn, ?_⟩) hpl
  rw [hks]
  exact run_kw (us := []) F (hr.mono hj) hx I2 .nil rz q2
end
end K31
set_option Elab.async false
set_option linter.all false
set_option maxRecDepth 100000
set_option maxHeartbeats 4000000
namespace K31
open PySem PySem.Spec PyProof.Rows L2 He
open C8 (Cal Met Mak pe_c pe_mk pe_mt pe_mt0 pe_gc)
theorem strOk_place {l : List (Str × Str)} (t : Tree l) {p : Str} (h : p ∈ places l) : PyData.strOk p = true := by
  rcases mem_places.mp h with z | z
  · subst z; decide +kernel
  · exact (t.ok p z).str
theorem diffN_le (xs ys : List Str) : diffN xs ys ≤ xs.length := List.length_filter_le _ _
theorem rowsOf_len {lp lg : List (Str × Str)} {ts : List Told} {xs : List Str} : (rowsOf lp lg ts xs).length = xs.length := by
  unfold rowsOf
  rw [List.length_mapIdx]
theorem rowsOf_at {lp lg : List (Str × Str)} {ts : List Told} {xs : List Str} {u : Nat} : (rowsOf lp lg ts xs)[u]? = (xs[u]?).map fun x => rowOf lp lg ts u x := by
  unfold rowsOf
  rw [List.getElem?_mapIdx]
theorem places_len {l : List (Str × Str)} (t : Tree l) : (places l).length ≤ 13 := by
  unfold places
  rw [List.length_cons, srt_len, List.length_map]
  have := t.hi
  omega
theorem rowsOk_of {lp lg : List (Str × Str)} {ts : List Told} {xs : List Str} (tp : Tree lp) (tg : Tree lg) (hx : ∀ x ∈ xs, x ∈ places lp) (h60 : xs.length ≤ 60) : RowsOk (rowsOf lp lg ts xs) (places lg) := by
  have each : ∀ r ∈ rowsOf lp lg ts xs, ∃ u x, x ∈ places lp ∧ r = rowOf lp lg ts u x := fun r hr => by
    obtain ⟨u, hu⟩ := List.getElem?_of_mem hr
    rw [rowsOf_at] at hu
    obtain ⟨x, h1, h2⟩ := Option.map_eq_some_iff.mp hu
    exact ⟨u, x, hx x (List.mem_of_getElem? h1), h2.symm⟩
  refine ⟨fun r hr => ?_, fun r hr e he => ?_, places_nd tg, places_len tg, fun r hr e he => ?_, by rw [rowsOf_len]; exact h60, fun p hp => strOk_place tg hp⟩
  · obtain ⟨u, x, _, rfl⟩ := each r hr
    exact rowOf_keys tg
  · obtain ⟨u, x, _, rfl⟩ := each r hr
    obtain ⟨o, ho, rfl⟩ := List.mem_map.mp he
    exact (List.mem_filter.mp ho).1
  · obtain ⟨u, x, hxp, rfl⟩ := each r hr
    obtain ⟨o, ho, rfl⟩ := List.mem_map.mp he
    have h1 := (tp.nfp hxp).2.1
    have h2 := (tg.nfp (List.mem_filter.mp ho).1).2.1
    have h3 := diffN_le (pth (aGet lp) x) (pth (aGet lg) o)
    have h4 := diffN_le (pth (aGet lg) o) (pth (aGet lp) x)
    constructor
    · exact Int.natCast_nonneg _
    · show ((diffN _ _ + diffN _ _ : Nat) : Int) ≤ 24
      omega
theorem web_of {lg : List (Str × Str)} (tg : Tree lg) : Web (nf lg) := by
  refine ⟨by rw [nf_places]; exact places_nd tg, by rw [nf_len]; exact tg.hi, fun m hm => ?_⟩
  rw [nf_keys, (srt_perm _).mem_iff] at hm
  obtain ⟨a, ea⟩ := aGet_some hm
  refine ⟨a, by rw [nf_get]; exact ea, ?_⟩
  rw [nf_places]
  refine mem_places.mpr ((tg.up ea).imp id fun ⟨b, eb⟩ => List.mem_map.mpr ⟨_, aGet_mem eb, rfl⟩)
section
variable {P : Program} {w : World} {K : PySem.W.Frag} {mg : Str → Option Value} {base : Heap}
/-- what stands where a transfer is asked -/
structure AskOk (K : PySem.W.Frag) (H : Hp) (a s f g : Addr) (lp lg : List (Str × Str)) (sl : List (Str × Int)) (xs : List Str) (ps : Pins) (room : Str → Nat) : Prop where
  asg : AsgAt K H a f xs
  ff : ForestAt K H f (nf lp)
  fg : ForestAt K H g (nf lg)
  tp : Tree lp
  tg : Tree lg
  xp : ∀ x ∈ xs, x ∈ places lp
  x1 : 1 ≤ xs.length
  x60 : xs.length ≤ 60
  sz : FDf V.int H s sl
  sn : sl.length = lg.length
  sk : ∀ m ∈ lg.map (·.1), ∃ z, aGet sl m = some z ∧ 0 ≤ z
  res : ∀ q ∈ places lg, residOf (nf lg) xs.length (fun m => (aGet sl m).getD 0) q = (room q : Int)
  p100 : ps.length ≤ 50
  who : ∀ e ∈ ps, e.2.who < xs.length
  pin : ∀ e ∈ ps, PinAt K H e.1 e.2
theorem Sub.ask {H H' : Hp} {a s f g : Addr} {lp lg : List (Str × Str)} {sl : List (Str × Int)} {xs : List Str} {ps : Pins} {room : Str → Nat} (u : Sub H H') (h : AskOk K H a s f g lp lg sl xs ps room) : AskOk K H' a s f g lp lg sl xs ps room :=
  ⟨u.asg h.asg, u.forest h.ff, u.forest h.fg, h.tp, h.tg, h.xp, h.x1, h.x60, u.f h.sz, h.sn, h.sk, h.res, h.p100, h.who, fun e he => u.pin (h.pin e he)⟩
noncomputable def roomL (lg : List (Str × Str)) (room : Str → Nat) : List (Str × Int) := fnL (places lg) fun q => (room q : Int)
/-- the goal's forest -/
theorem rd_goal {σ : L2.St} {H : Hp} {Q : VK} {a f g : Addr} {fv : V} {xs : List Str} (h0 : σ[0]? = some (some (.ref a))) (h3 : σ[3]? = some (some fv)) (h : (fv = .non ∧ g = f) ∨ fv = .ref g) (ha : AsgAt K H a f xs) (q : Q (.ref g) H) :
    tIf (tB (tIsN (tVar 3))) (tProp (ga K "Assignment") (sp_Assignment_forest K) [] E0 (tVar 0)) (tVar 3) σ H Q := by
  refine ⟨fv, h3, _, rfl, ?_⟩
  rcases h with ⟨rfl, rfl⟩ | rfl
  · exact rd_ite (fun _ => ⟨_, h0, rd_forest ha q⟩) (fun z => absurd z (by decide))
  · exact rd_ite (fun z => absurd z (by simp)) (fun _ => ⟨_, h3, q⟩)
def sp_asked (K : PySem.W.Frag) : Sp := fun vs H Q _ => ∃ (a s q f g : Addr) (fv : V) (lp lg : List (Str × Str)) (sl : List (Str × Int)) (xs : List Str) (ps : Pins) (room : Str → Nat), vs = [.ref a, .ref s, .ref q, fv] ∧ AskOk K H a s f g lp lg sl xs ps room ∧ SqT K H q (ps.map fun e => V.ref e.1) ∧ ((fv = .non ∧ g = f) ∨ fv = .ref g) ∧
  ∀ (t r F : Addr) (H' : Hp), H t = none → Sub H H' → H' t = some (.tup [.ref g, .ref r, .ref F]) → FDf V.int H' r (roomL lg room) → CostsAt H' F (rowsOf lp lg (ps.map (·.2)) xs) → Q (.ref t) H'
abbrev n_asked : List Str := ["assignment", "new", "pins", "forest", "goal", "rooms"]
theorem sc_asked : FnScope n_asked ["assignment", "new", "pins", "forest"] (defScope sasked) := ⟨rfl, rfl, rfl, by decide +kernel, rfl, by decide +kernel, by decide +kernel⟩
theorem ok_asked (T : Txt K mg) : Cal P w K mg base 6 "asked" (sp_asked K) [] := by
  refine cal_of T.f_asked T.g_asked sc_asked (fun vs H Q E h => ?_) (fun _ _ _ _ _ _ us hl => match us, hl with | [_, _, _, _], _ => rfl) (fun f0 cdv A outer s0 H vs Q E hr h => ?_)
  · obtain ⟨a, s, q, f, g, fv, lp, lg, sl, xs, ps, room, rfl, _⟩ := h
    rfl
  · obtain ⟨a, s, q, f, g, fv, lp, lg, sl, xs, ps, room, rfl, A0, hq, hfv, k⟩ := h
    refine ⟨_, (pss_cons (ps_set (i := 4) sc_asked.nd rfl (.inl rfl) (pe_ifExp (pt_cmp (pc_isN (pv 3))) (pr_Assignment_forest T hr (by decide) (pv 0)) (pv 3)))
  (pss_cons (ps_expr (pe_c (ok_need_feasible T) hr (by decide) rfl (pa_cons (pv 4) (pa_cons (pr_Assignment_total T hr (by decide) (pv 0)) (pa_cons (pv 1) pa_nil)))))
  (pss_cons (ps_expr (pe_c (ok_need_pins T) hr (by decide) rfl (pa_cons (pv 2) (pa_cons (pr_Assignment_total T hr (by decide) (pv 0)) pa_nil))))
  (pss_cons (ps_set (i := 5) sc_asked.nd rfl (.inl rfl) (pe_c (ok_residents_of T) hr (by decide) rfl (pa_cons (pv 4) (pa_cons (pr_Assignment_total T hr (by decide) (pv 0)) (pa_cons (pv 1) pa_nil)))))
  (pss_one (ps_ret (pe_tup (pa_cons (pv 4) (pa_cons (pv 5) (pa_cons (pe_c (ok_costs_of T) hr (by decide) rfl (pa_cons (pr_Assignment_forest T hr (by decide) (pv 0)) (pa_cons (pr_Assignment_places T hr (by decide) (pv 0)) (pa_cons (pv 4) (pa_cons (pv 2) pa_nil))))) pa_nil)))))))))), ?_⟩
    have W := web_of A0.tg
    have hwl : sl.length = (nf lg).length := by rw [nf_len]; exact A0.sn
    have hwk : ∀ m ∈ (nf lg).map (·.1), ∃ z, aGet sl m = some z ∧ 0 ≤ z := fun m hm => A0.sk m (by rw [nf_keys, (srt_perm _).mem_iff] at hm; exact hm)
    have hres : ∀ q ∈ ("" : Str) :: (nf lg).map (·.1), 0 ≤ residOf (nf lg) xs.length (fun m => (aGet sl m).getD 0) q := fun q hq => by
      rw [nf_places] at hq
      rw [A0.res q hq]
      omega
    refine rd_goal rfl rfl hfv A0.asg ?_
    refine ⟨_, rfl, _, rfl, rd_total A0.asg ?_⟩
    refine ⟨_, rfl, g, s, (xs.length : Int), nf lg, sl, rfl, A0.fg, W, A0.sz, hwl, hwk, hres, fun H1 s1 => ?_⟩
    have A1 := s1.ask A0
    refine ⟨_, rfl, _, rfl, rd_total A1.asg ?_⟩
    refine ⟨q, xs.length, ps, rfl, ⟨s1.t hq, A1.pin⟩, A1.who, fun H2 s2 => ?_⟩
    have A2 := s2.ask A1
    have s12 := s1.trans s2
    refine ⟨_, rfl, _, rfl, rd_total A2.asg ?_⟩
    refine ⟨_, rfl, g, s, (xs.length : Int), nf lg, sl, rfl, A2.fg, W, A2.sz.rd, fun m hm => let ⟨z, ez, _⟩ := hwk m hm; ⟨z, ez⟩, fun r H3 n3 s3 e3 => ?_⟩
    have A3 := s3.ask A2
    have s13 := s12.trans s3
    have e3 : FDf V.int H3 r (roomL lg room) := by
      rw [nf_places] at e3
      have : fnL (places lg) (residOf (nf lg) xs.length fun m => (aGet sl m).getD 0) = roomL lg room := by
        unfold roomL fnL
        refine List.map_congr_left fun p hp => ?_
        rw [A0.res p hp]
      rw [this] at e3
      exact e3
    refine ⟨_, rfl, _, rfl, _, rfl, rd_forest A3.asg ?_⟩
    refine ⟨_, rfl, rd_places A3.asg fun pa H4 n4 s4 e4 => ?_⟩
    have A4 := s4.ask A3
    have s14 := s13.trans s4
    refine ⟨_, rfl, _, rfl, ?_⟩
    refine ⟨f, pa, g, q, lp, lg, xs, ps, rfl, A4.ff, A4.tp, e4, A4.xp, A4.x60, A4.fg, A4.tg, ⟨s14.t hq, A4.pin⟩, by have := A4.p100; omega, fun F H5 n5 s5 e5 => ?_⟩
    have s15 := s14.trans s5
    refine ⟨sz (by simp), fun t nt => ?_⟩
    exact k t r F _ (s15.fresh nt) (s15.trans (Sub.new nt)) upd_same ((s4.trans (s5.trans (Sub.new nt))).f e3) ((Sub.new nt).costs e5)

/-! ### Transfer -/
def sp_Transfer_init (K : PySem.W.Frag) : Sp := fun vs H Q _ => ∃ (p d : Addr) (x y : V) (kvs : List (Key × V)), vs = [.ref p, x, y, .ref d] ∧ (∃ dx, H p = some (.ins (ga K "Transfer") dx [])) ∧ Rd H d (.dK kvs) ∧ ∀ H', (∀ b o, b ≠ p → H b = some o → H' b = some o) → (∃ dx fs, H' p = some (.ins (ga K "Transfer") dx fs)) → Q .non H'
abbrev n_Transfer_init : List Str := ["self", "toggles", "assignment", "prices"]
theorem sc_Transfer_init : FnScope n_Transfer_init ["self", "toggles", "assignment", "prices"] (defScope mTransfer_init) := ⟨rfl, rfl, rfl, by decide +kernel, rfl, by decide +kernel, by decide +kernel⟩
theorem mk_Transfer (T : Txt K mg) : Mak P w K mg base 1 "Transfer" (ga K "Transfer") (sp_Transfer_init K) [] := by
  refine mak_of T.f_Transfer_init T.k_Transfer T.g_Transfer sc_Transfer_init (fun vs H Q E h => ?_) (fun _ _ _ _ _ _ us hl => match us, hl with | [_, _, _, _], _ => rfl) (fun f cdv A outer s H vs Q E hr h => ?_)
  · obtain ⟨p, d, x, y, kvs, rfl, _⟩ := h
    rfl
  · obtain ⟨p, d, x, y, kvs, rfl, ⟨dx, hp⟩, hd, k⟩ := h
    refine ⟨_, (pss_cons (ps_fld (pv 0) (pv 1) rfl)
  (pss_cons (ps_fld (pv 0) (pv 2) rfl)
  (pss_one (ps_fld (pv 0) (pe_callTy c_dictD rfl T.n_dict (by decide +kernel) (pa_cons (pv 3) pa_nil)) rfl)))), ?_⟩
    have ndp : d ≠ p := fun z => by
      rw [z] at hd
      rcases hd with hd | ⟨o, hd⟩ <;> (rw [hp] at hd; cases hd)
    refine ⟨_, rfl, _, rfl, p, _, dx, _, rfl, hp, T.c_Transfer, T.a_Transfer_cost, by show 0 < 1000; decide, ?_⟩
    refine ⟨_, rfl, _, rfl, p, _, dx, _, rfl, upd_same, T.c_Transfer, T.a_Transfer_reached, by show 1 < 1000; decide, ?_⟩
    refine ⟨_, rfl, d, kvs, rfl, hd.imp (fun h => by rw [upd_ne ndp, upd_ne ndp]; exact h) (fun ⟨o, h⟩ => ⟨o, by rw [upd_ne ndp, upd_ne ndp]; exact h⟩), fun q n => ?_⟩
    have nqp : q ≠ p := fun z => by rw [z, upd_same] at n; cases n
    have nq : H q = none := by rw [upd_ne nqp, upd_ne nqp] at n; exact n
    refine ⟨_, rfl, p, _, dx, _, rfl, (upd_ne nqp.symm).trans upd_same, T.c_Transfer, T.a_Transfer_price_of, by show 2 < 1000; decide, ?_⟩
    refine k _ (fun b o hb e => ?_) ⟨dx, _, upd_same⟩
    rw [upd_ne hb, upd_ne (ne_of_none e nq), upd_ne hb, upd_ne hb]
    exact e

/-! ### transfer -/
def sp_transfer (K : PySem.W.Frag) : Sp := fun vs H Q E => ∃ (a s q f g : Addr) (fv : V) (lp lg : List (Str × Str)) (sl : List (Str × Int)) (xs : List Str) (ps : Pins) (room : Str → Nat), vs = [.ref a, .ref s, fv, .ref q] ∧ AskOk K H a s f g lp lg sl xs ps room ∧ SqT K H q (ps.map fun e => V.ref e.1) ∧ ((fv = .non ∧ g = f) ∨ fv = .ref g) ∧
  (∀ (x : Addr) (H' : Hp) (gl : List Str), Sub H H' → (∃ dx fs, H' x = some (.ins (ga K "Transfer") dx fs)) → gl.length = xs.length → Good (costOf (rowsOf lp lg (ps.map (·.2)) xs)) room gl → Q (.ref x) H') ∧
  (∀ (H' : Hp) (d q : Addr) (S : List Nat), Sub H H' → H' d = some (.xd [("users", .ref q)]) → H' q = some (.tup (S.map fun i => .int (i : Nat))) → Asc S → S ≠ [] → (∀ u ∈ S, u < xs.length) → tooMany (places lg) room (costOf (rowsOf lp lg (ps.map (·.2)) xs)) S = true → E (.ref (ga K "Crowded")) (some d) H')
abbrev n_transfer : List Str := ["assignment", "new", "forest", "pins", "goal", "rooms", "costs", "places", "prices", "cost", "user", "place"]
theorem sc_transfer : FnScope n_transfer ["assignment", "new", "forest", "pins"] (defScope stransfer) := ⟨rfl, rfl, rfl, by decide +kernel, rfl, by decide +kernel, by decide +kernel⟩
theorem body_transfer (T : Txt K mg) (f0 : Addr) (cdv : Value) (A : Around) (outer : List Env) (s0 : Shared) (H : Hp) (vs : List V) (Q : VK) (E : XK) (hr : Room 6 (A.deeper (envOfC "transfer" (defScope stransfer) s0.heap.objs.size f0 cdv))) (h : sp_transfer K vs H Q E) :
    ∃ t, PSs (cxOf (L2.CX P w) P w K mg base n_transfer "transfer" (defScope stransfer) f0 cdv A outer s0 H E) (defBody stransfer) t ∧ t { nx := fun _ H' => Q .non H', rt := Q } (L2.start n_transfer vs) H := by
  obtain ⟨a, s, q, f, g, fv, lp, lg, sl, xs, ps, room, rfl, A0, hq, hfv, k, ke⟩ := h
  have hu := hu_of hr
  have htk : Takes (cxOf (L2.CX P w) P w K mg base n_transfer "transfer" (defScope stransfer) f0 cdv A outer s0 H E) (fun cls d _ H => E cls d H) := takes_of rfl rfl rfl rfl
  refine ⟨_, (pss_cons (ps_asg (pe_c (ok_asked T) hr (by decide) rfl (pa_cons (pv 0) (pa_cons (pv 1) (pa_cons (pv 3) (pa_cons (pv 2) pa_nil))))) (pg_tup (n := 3) rfl (pgs_cons (pg_name (i := 4) sc_transfer.nd rfl (.inl rfl)) (pgs_cons (pg_name (i := 5) sc_transfer.nd rfl (.inl rfl)) (pgs_cons (pg_name (i := 6) sc_transfer.nd rfl (.inr rfl)) pgs_nil)))))
  (pss_cons (ps_asg (pe_cX (ok_cheapest T) htk hr (by decide) rfl (pa_cons (pv 6) (pa_cons (pv 5) pa_nil))) (pg_tup (n := 2) rfl (pgs_cons (pg_name (i := 7) sc_transfer.nd rfl (.inl rfl)) (pgs_cons (pg_name (i := 8) sc_transfer.nd rfl (.inl rfl)) pgs_nil))))
  (pss_cons (ps_set (i := 9) sc_transfer.nd rfl (.inl rfl) (pe_callB (cr_sum rfl) rfl T.n_sum (by decide +kernel) (pa_cons (pe_lc (own := [("user", 10), ("place", 11)]) (g := (gTup K 2 (gCons (gName 10) (gCons (gName 11) gNil)))) (tt := tYes) (te := (tDGet (tOp (rIxL K) (tVar 6) (tVar 10)) (tVar 11))) rfl sc_transfer.nd (pi_enum rfl T.n_enumerate (pa_cons (pv 7) pa_nil)) (blkOk_by (N := n_transfer) (sc := defScope stransfer) (by decide +kernel)) (fun _ _ _ _ _ => (pg_tup (n := 2) rfl (pgs_cons (pg_name (i := 10) sc_transfer.nd rfl (.inl rfl)) (pgs_cons (pg_name (i := 11) sc_transfer.nd rfl (.inl rfl)) pgs_nil)))) (fun _ _ _ _ _ => pts_nil) (fun _ _ _ _ _ => (pe_dget hu (pe_ix ix_list (pv 6) (pv 10) (fun _ _ => rfl)) (pv 11) (fun _ _ => rfl)))) pa_nil)))
  (pss_one (ps_ret (pe_mk (mk_Transfer T) hr (by decide) rfl (pa_cons (pv 9) (pa_cons (pe_mk (mk_Assignment T) hr (by decide) rfl (pa_cons (pv 4) (pa_cons (pv 7) pa_nil))) (pa_cons (pv 8) pa_nil))))))))), ?_⟩
  refine ⟨_, rfl, _, rfl, _, rfl, _, rfl, ?_⟩
  refine ⟨a, s, q, f, g, fv, lp, lg, sl, xs, ps, room, rfl, A0, hq, hfv, fun t r F H1 n1 s1 et er hc => ?_⟩
  refine ⟨t, _, rfl, SqT.of et, rfl, _, _, rfl, _, _, rfl, _, _, rfl, rfl, ?_⟩
  generalize hrows : rowsOf lp lg (ps.map (·.2)) xs = rows at k ke hc
  have hrl : rows.length = xs.length := by rw [← hrows]; exact rowsOf_len
  have R : RowsOk rows ((roomL lg room).map (·.1)) := by
    rw [← hrows, roomL, fnL_keys]
    exact rowsOk_of A0.tp A0.tg A0.xp A0.x60
  have A1 := s1.ask A0
  have x1 := A0.x1
  have x60 := A0.x60
  refine ⟨_, rfl, _, rfl, ?_⟩
  refine ⟨F, r, rows, roomL lg room, room, rfl, hc, R, er, fun p hp => ?_, fun t2 L D H2 gl l n2 s2 et2 eL eD hgl G => ?_, fun H2 d q S s2 h1 h2 h3 h4 h5 h6 => ?_⟩
  · rw [roomL, fnL_keys] at hp
    exact fnL_get hp
  rotate_left
  · rw [roomL, fnL_keys] at h6
    exact ke H2 d q S (s1.trans s2) h1 h2 h3 h4 (fun u hu => by have := h5 u hu; omega) h6
  refine ⟨t2, _, rfl, SqT.of et2, rfl, _, _, rfl, _, _, rfl, rfl, ?_⟩
  have s12 := s1.trans s2
  have A2 := s2.ask A1
  have hc2 := s2.costs hc
  -- the whole cost
  refine ⟨_, rfl, L, _, rfl, SqL.of eL, fun Z nZ => ?_⟩
  refine lc_it (walkE (K := K) (a := L) (data := gl) (f := V.str)) (fun i H' => ∃ ns : List Int, H' Z = some (.lst (ns.map V.int)) ∧ ns.length = i ∧ Sub H2 H') ⟨[], upd_same, rfl, Sub.new nZ⟩ (fun i H' _ ⟨_, _, _, s⟩ => s.l (SqL.of eL)) ?_ (fun H3 ⟨ns, e3, _, s3⟩ => ?_)
  · rintro i x H3 H4 hi ⟨ns, e3, hn, s3⟩ ⟨t3, u, v, rfl, hn1, rfl, eu, ev⟩
    cases eu
    have := get_map hi ev
    subst this
    obtain ⟨c, hcst⟩ := G.may i gl[i] (List.getElem?_eq_getElem hi)
    generalize gl[i] = pl at hcst ⊢
    obtain ⟨row, hrow, hpr⟩ := costOf_some hcst
    have s34 : Sub H3 (upd H3 t3 (.tup [.int (i : Nat), .str pl])) := Sub.new hn1
    have e4 : (upd H3 t3 (.tup [.int (i : Nat), .str pl])) t3 = some (.tup [.int (i : Nat), .str pl]) := upd_same
    generalize upd H3 t3 (.tup [.int (i : Nat), .str pl]) = H4 at s34 e4 ⊢
    have s4 := s3.trans s34
    refine gPair e4 ⟨wipe_self2, ?_⟩
    obtain ⟨cs, d, g1, g2, g3⟩ := (s4.costs hc2).row hrow
    refine ⟨_, rfl, _, rfl, F, _, _, _, rfl, rfl, SqL.of g1, g2, _, rfl, d, .int c, rfl, (by have := dget_r g3.rd pl; rwa [hpr] at this), _, s34 _ _ e3, szl (by rw [List.length_map, hn]; omega), ns ++ [c], ?_, by rw [List.length_append, hn]; rfl, s4.mut nZ⟩
    rw [upd_same, List.map_append]
    rfl
  refine ⟨Z, ns, rfl, SqL.of e3, ?_⟩
  have s13 := s12.trans s3
  have A3 := s3.ask A2
  refine ⟨_, rfl, _, rfl, _, rfl, ?_⟩
  refine rd_Assignment A3.fg (s3 _ _ eL) (by omega) (by omega) (fun x hx => ?_) fun y H4 n4 s4 e4 => ?_
  · obtain ⟨m, hm⟩ := List.getElem?_of_mem hx
    obtain ⟨c, hcst⟩ := G.may m x hm
    have h1 := R.inU hcst
    rw [roomL, fnL_keys, ← nf_places] at h1
    exact List.mem_cons.mp h1
  have s14 := s13.trans s4
  refine ⟨_, rfl, fun x dx nx nd ne => ?_⟩
  have sx : Sub H4 (upd (upd H4 dx (.own x)) x (.ins (ga K "Transfer") dx [])) := (Sub.new nd).mut nx
  refine ⟨x, D, _, _, _, rfl, ⟨dx, upd_same⟩, .inl (sx _ _ (s4 _ _ (s3 _ _ eD))), fun H5 h5 h6 => ⟨rfl, ?_⟩⟩
  exact k x H5 gl (fun b o e => h5 b o (ne_of_none (s14 _ _ e) nx) (sx _ _ (s14 _ _ e))) h6 (by omega) G
end
end K31
set_option Elab.async false
set_option linter.all false
set_option maxRecDepth 100000
set_option maxHeartbeats 4000000
/-! set of a tuple of ints; lists of ints that are compared; emptiness. -/
namespace K31
open PySem PySem.Spec PyProof.Rows L2 He
section
variable {X : Cx}
def kSetTI (K : PySem.W.Frag) (w : World) : List V → Hp → VK → Prop := fun vs H Q => ∃ (p : Addr) (ns : List Int), vs = [V.ref p] ∧ SqT K H p (ns.map V.int) ∧ ns.length ≤ 60 ∧ ∀ (a : Addr) (c : Nat), H a = none → c ≤ ns.length → Q (.ref a) (upd H a (SetO w a (fun j => decide (j ∈ ns)) c))
theorem c_setTI (hc : X.calm = true) : CallR X (.type "set") (kSetTI X.K X.w) := by
  intro pins s σ H vs us Q I r h
  obtain ⟨p, ns, rfl, hp, h60, q⟩ := h
  obtain ⟨its, rv, ht, _⟩ := I.tuple hp
  rw [Vals.ref1 r]
  have hi : IntsAre its.toArray.toList ns := by
    rw [List.toList_toArray]
    exact rv.ints
  refine call_set_tupI ns (I.ok.hd hc) (show s.heap.IsTuple p its.toArray from ht) hi (by unfold scanBound; omega) fun h' tk c R hcn k => ?_
  exact ⟨.ref _, upd H s.heap.objs.size (SetO X.w s.heap.objs.size (fun j => decide (j ∈ ns)) c), I.laid (t' := tk) k (Nat.le_refl _) (setO_new R), rfl, q _ c (I.hok.fresh (Nat.le_refl _)) hcn⟩
theorem dp_ints {K : PySem.W.Frag} {H : Hp} : ∀ xs : List Int, DpAll K H (xs.map V.int) (xs.map PyData.int)
  | [] => .nil
  | x :: xs => .cons (.int x) (dp_ints xs)
theorem lay_ints : ∀ xs : List Int, PyData.canLayAll0 (xs.map PyData.int) = true
  | [] => rfl
  | x :: xs => by
    show (true && PyData.canLayAll0 (xs.map PyData.int)) = true
    rw [lay_ints xs]
    rfl
theorem depth_ints : ∀ xs : List Int, PyData.depthAll (xs.map PyData.int) = 0
  | [] => by simp [PyData.depthAll]
  | x :: xs => by simp [PyData.depthAll, PyData.depth, depth_ints xs]
theorem shaped_ints (xs : List Int) : SeqAt.shaped (.list (xs.map PyData.int)) = true := by
  show (PyData.canLayAll0 (xs.map PyData.int) && decide (PyData.depth (.list (xs.map PyData.int)) ≤ 64)) = true
  rw [lay_ints xs]
  simp [PyData.depth, depth_ints xs]
theorem eqv_ints : ∀ xs ys : List Int, PyData.eqvAll (xs.map PyData.int) (ys.map PyData.int) = decide (xs = ys)
  | [], [] => rfl
  | [], _ :: _ => rfl
  | _ :: _, [] => rfl
  | x :: xs, y :: ys => by
    show (x == y && PyData.eqvAll (xs.map PyData.int) (ys.map PyData.int)) = _
    rw [eqv_ints xs ys]
    by_cases h : x = y <;> by_cases g : xs = ys <;> simp [h, g]
theorem neD_ints {K : PySem.W.Frag} {H : Hp} {a b : Addr} {xs ys : List Int} {Q : VK} (ha : SqL K H a (xs.map V.int)) (hb : SqL K H b (ys.map V.int)) (q : Q (.bl (!decide (xs = ys))) H) : rNeD K (.ref a) (.ref b) H Q :=
  ⟨_, _, .lst ha (dp_ints xs), .lst hb (dp_ints ys), shaped_ints xs, shaped_ints ys, by
    show Q (.bl (!PyData.eqvAll (xs.map PyData.int) (ys.map PyData.int))) H
    rw [eqv_ints]; exact q⟩
theorem eqD_ints {K : PySem.W.Frag} {H : Hp} {a b : Addr} {xs ys : List Int} {Q : VK} (ha : SqL K H a (xs.map V.int)) (hb : SqL K H b (ys.map V.int)) (q : Q (.bl (decide (xs = ys))) H) : rEqD K (.ref a) (.ref b) H Q :=
  ⟨_, _, .lst ha (dp_ints xs), .lst hb (dp_ints ys), shaped_ints xs, shaped_ints ys, by
    show Q (.bl (PyData.eqvAll (xs.map PyData.int) (ys.map PyData.int))) H
    rw [eqv_ints]; exact q⟩
theorem neD_strs {K : PySem.W.Frag} {H : Hp} {a b : Addr} {xs ys : List Str} {Q : VK} (ha : SqL K H a (xs.map V.str)) (hb : SqL K H b (ys.map V.str)) (hx : ∀ x ∈ xs, PyData.strOk x = true) (hy : ∀ x ∈ ys, PyData.strOk x = true) (q : Q (.bl (!decide (xs = ys))) H) : rNeD K (.ref a) (.ref b) H Q :=
  ⟨_, _, .lst ha (dp_strs xs), .lst hb (dp_strs ys), shaped_strs hx, shaped_strs hy, by
    show Q (.bl (!PyData.eqvAll (xs.map PyData.str) (ys.map PyData.str))) H
    rw [eqv_strs]; exact q⟩
/-- against the empty list -/
theorem eqv_nil : ∀ ds : List PyData, PyData.eqvAll ds [] = ds.isEmpty
  | [] => rfl
  | _ :: _ => rfl
theorem dpAll_len {K : PySem.W.Frag} {H : Hp} : ∀ {xs : List V} {ds : List PyData}, DpAll K H xs ds → xs.isEmpty = ds.isEmpty
  | _, _, .nil => rfl
  | _, _, .cons _ _ => rfl
theorem eqD_nil {K : PySem.W.Frag} {H : Hp} {a b : Addr} {xs : List V} {ds : List PyData} {Q : VK} (ha : SqL K H a xs) (hd : DpAll K H xs ds) (hs : SeqAt.shaped (.list ds) = true) (hb : SqL K H b []) (q : Q (.bl xs.isEmpty) H) : rEqD K (.ref a) (.ref b) H Q :=
  ⟨_, _, .lst ha hd, .lst hb .nil, hs, by decide +kernel, by
    show Q (.bl (PyData.eqvAll ds [])) H
    rw [eqv_nil, ← dpAll_len hd]; exact q⟩
theorem neD_nil {K : PySem.W.Frag} {H : Hp} {a b : Addr} {xs : List V} {ds : List PyData} {Q : VK} (ha : SqL K H a xs) (hd : DpAll K H xs ds) (hs : SeqAt.shaped (.list ds) = true) (hb : SqL K H b []) (q : Q (.bl (!xs.isEmpty)) H) : rNeD K (.ref a) (.ref b) H Q :=
  ⟨_, _, .lst ha hd, .lst hb .nil, hs, by decide +kernel, by
    show Q (.bl (!PyData.eqvAll ds [])) H
    rw [eqv_nil, ← dpAll_len hd]; exact q⟩
end
end K31
set_option Elab.async false
set_option linter.all false
set_option maxRecDepth 100000
set_option maxHeartbeats 4000000
namespace K31
open PySem PySem.Spec PyProof.Rows L2 He
open C8 (Cal Met Mak pe_c pe_mk pe_mt pe_mt0 pe_gc)
/-! ### things that is_crowd is asked of -/
def ltV (n : Int) : V → Bool
  | .int i => decide (i < n)
  | _ => false
def natV : V → Nat
  | .int i => i.toNat
  | _ => 0
def inR (n : Nat) (x : V) : Bool := geV 0 x && ltV n x
def natsOf (n : Nat) (vs : List V) : Option (List Nat) := if vs.all (inR n) = true then some (vs.map natV) else none
theorem inR_nat {n : Nat} {x : V} (h : inR n x = true) : x = .int (natV x : Nat) ∧ natV x < n := by
  unfold inR at h
  rw [Bool.and_eq_true] at h
  cases x with
  | int i =>
    have h1 : 0 ≤ i := of_decide_eq_true h.1
    have h2 : i < n := of_decide_eq_true h.2
    refine ⟨congrArg V.int (show i = ((i.toNat : Nat) : Int) by omega), ?_⟩
    show i.toNat < n
    omega
  | _ => exact nomatch h.1
theorem natsOf_some {n : Nat} {vs : List V} {S : List Nat} (h : natsOf n vs = some S) : vs = S.map (fun i : Nat => V.int (i : Int)) ∧ ∀ u ∈ S, u < n := by
  unfold natsOf at h
  split at h
  · rename_i ha
    cases h
    rw [List.all_eq_true] at ha
    refine ⟨?_, fun u hu => ?_⟩
    · rw [List.map_map]
      refine Eq.symm ((List.map_congr_left fun x hx => ?_).trans (List.map_id vs))
      exact (inR_nat (ha x hx)).1.symm
    · obtain ⟨x, hx, rfl⟩ := List.mem_map.mp hu
      exact (inR_nat (ha x hx)).2
  · cases h
instance (S : List Nat) : Decidable (Asc S) := inferInstanceAs (Decidable (S.Pairwise (· < ·)))
/-- how is_crowd answers: none: no tuple -/
def crowdB (U : List Str) (room : Str → Nat) (c : Cost Str) (n : Nat) : Option (List V) → Bool
  | none => false
  | some vs => match natsOf n vs with
    | none => false
    | some S => decide (Asc S) && tooMany U room c S
theorem crowdB_none {U : List Str} {room : Str → Nat} {c : Cost Str} {n : Nat} {vs : List V} (h : natsOf n vs = none) : crowdB U room c n (some vs) = false := by
  show (match natsOf n vs with
    | none => false
    | some S => decide (Asc S) && tooMany U room c S) = false
  rw [h]
theorem crowdB_some {U : List Str} {room : Str → Nat} {c : Cost Str} {n : Nat} {vs : List V} {S : List Nat} (h : natsOf n vs = some S) : crowdB U room c n (some vs) = (decide (Asc S) && tooMany U room c S) := by
  show (match natsOf n vs with
    | none => false
    | some S => decide (Asc S) && tooMany U room c S) = _
  rw [h]
/-- a thing: a tuple, or none -/
def ThAt (K : PySem.W.Frag) (H : Hp) (x : V) : Option (List V) → Prop
  | none => ∃ n, TyX K H x (.type n) ∧ kitB n "tuple" = some false
  | some vs => (∃ p, x = .ref p ∧ H p = some (.tup vs)) ∧ (∀ y ∈ vs, KindV K H y) ∧ vs.length ≤ 60
theorem Sub.tyo {K : PySem.W.Frag} {H H' : Hp} {x : V} {t : Value} (s : Sub H H') (h : TyOf K H x t) : TyOf K H' x t := by
  cases h with
  | non => exact .non
  | bl b => exact .bl b
  | int i => exact .int i
  | str i => exact .str i
  | flt i => exact .flt i
  | lst e => exact .lst (s _ _ e)
  | frz e => exact .frz (s _ _ e)
  | tup e => exact .tup (s _ _ e)
  | dK e => exact .dK (s _ _ e)
  | dT e => exact .dT (s _ _ e)
  | ins e a b c d f => exact .ins (s _ _ e) a b c d f
theorem Sub.tyx {K : PySem.W.Frag} {H H' : Hp} {x : V} {t : Value} (s : Sub H H') (h : TyX K H x t) : TyX K H' x t := by
  cases h with
  | base h => exact .base (s.tyo h)
  | byt b => exact .byt b
  | set e => exact .set (s _ _ e)
  | kList e c => exact .kList e c
  | kTuple e c => exact .kTuple e c
  | kDict e c => exact .kDict e c
  | fTuple e => exact .fTuple (s _ _ e)
  | fDict e => exact .fDict (s _ _ e)
theorem Sub.kind {K : PySem.W.Frag} {H H' : Hp} {x : V} (s : Sub H H') (h : KindV K H x) : KindV K H' x := h.imp id (fun h => h.imp id fun ⟨n, a, b⟩ => ⟨n, s.tyx a, b⟩)
theorem Sub.th {K : PySem.W.Frag} {H H' : Hp} {x : V} {tv : Option (List V)} (s : Sub H H') (h : ThAt K H x tv) : ThAt K H' x tv := by
  cases tv with
  | none => obtain ⟨n, a, b⟩ := h; exact ⟨n, s.tyx a, b⟩
  | some vs => obtain ⟨⟨p, a, b⟩, c, d⟩ := h; exact ⟨⟨p, a, s _ _ b⟩, fun y hy => s.kind (c y hy), d⟩
/-- sorted(set(S)) == S: S ascends -/
theorem set_sorted {S : List Nat} {ns : List Int} (hp : ns.Pairwise (· < ·)) (hm : ∀ k : Int, k ∈ ns ↔ decide (k ∈ S.map fun i : Nat => (i : Int)) = true) : decide ((S.map fun i : Nat => (i : Int)) = ns) = decide (Asc S) := by
  by_cases h : Asc S
  · have hn : (S.map fun i : Nat => (i : Int)).Nodup := by
      exact List.Pairwise.map _ (fun a b hab e => hab (Int.ofNat.inj e)) (asc_nodup h)
    have hn2 : ns.Nodup := hp.imp fun h e => absurd (e ▸ h) (Int.lt_irrefl _)
    have pm : ns.Perm (S.map fun i : Nat => (i : Int)) := (List.perm_ext_iff_of_nodup hn2 hn).mpr fun k => by rw [hm k, decide_eq_true_eq]
    have := ints_one pm (hp.imp fun h => Int.le_of_lt h) h
    rw [this, decide_eq_true rfl, decide_eq_true h]
  · rw [decide_eq_false h, decide_eq_false]
    intro e
    refine h ?_
    rw [← e, List.pairwise_map] at hp
    exact hp.imp fun h => by omega
theorem sum_room {room : Str → Nat} : ∀ l : List Str, (l.map fun p => (room p : Int)).sum = (sumOn room l : Int)
  | [] => rfl
  | p :: l => by
    rw [List.map_cons, List.sum_cons, sum_room l]
    show _ = ((room p + sumOn room l : Nat) : Int)
    push_cast
    rfl
section
variable {P : Program} {w : World} {K : PySem.W.Frag} {mg : Str → Option Value} {base : Heap}
/-! ### is_crowd -/
def sp_is_crowd (K : PySem.W.Frag) : Sp := fun vs H Q _ => ∃ (a s q f g : Addr) (x fv : V) (tv : Option (List V)) (lp lg : List (Str × Str)) (sl : List (Str × Int)) (xs : List Str) (ps : Pins) (room : Str → Nat), vs = [.ref a, .ref s, x, fv, .ref q] ∧ AskOk K H a s f g lp lg sl xs ps room ∧ SqT K H q (ps.map fun e => V.ref e.1) ∧ ((fv = .non ∧ g = f) ∨ fv = .ref g) ∧ ThAt K H x tv ∧
  ∀ H', Sub H H' → Q (.bl (crowdB (places lg) room (costOf (rowsOf lp lg (ps.map (·.2)) xs)) xs.length tv)) H'
abbrev n_is_crowd : List Str := ["assignment", "new", "users", "forest", "pins", "goal", "rooms", "costs", "allowed", "user", "place"]
theorem sc_is_crowd : FnScope n_is_crowd ["assignment", "new", "users", "forest", "pins"] (defScope sis_crowd) := ⟨rfl, rfl, rfl, by decide +kernel, rfl, by decide +kernel, by decide +kernel⟩
theorem body_is_crowd (T : Txt K mg) (f0 : Addr) (cdv : Value) (A : Around) (outer : List Env) (s0 : Shared) (H : Hp) (vs : List V) (Q : VK) (E : XK) (hr : Room 6 (A.deeper (envOfC "is_crowd" (defScope sis_crowd) s0.heap.objs.size f0 cdv))) (h : sp_is_crowd K vs H Q E) :
    ∃ t, PSs (cxOf CX0 P w K mg base n_is_crowd "is_crowd" (defScope sis_crowd) f0 cdv A outer s0 H E).nox (defBody sis_crowd) t ∧ t { nx := fun _ H' => Q .non H', rt := Q } (L2.start n_is_crowd vs) H := by
  obtain ⟨a, s, q, f, g, x, fv, tv, lp, lg, sl, xs, ps, room, rfl, A0, hq, hfv, hth, k⟩ := h
  have hu := hu_of hr
  refine ⟨_, (pss_cons (ps_asg (pe_c (ok_asked T) hr (by decide) rfl (pa_cons (pv 0) (pa_cons (pv 1) (pa_cons (pv 4) (pa_cons (pv 3) pa_nil))))) (pg_tup (n := 3) rfl (pgs_cons (pg_name (i := 5) sc_is_crowd.nd rfl (.inl rfl)) (pgs_cons (pg_name (i := 6) sc_is_crowd.nd rfl (.inr rfl)) (pgs_cons (pg_name (i := 7) sc_is_crowd.nd rfl (.inr rfl)) pgs_nil)))))
  (pss_cons (ps_if (PW.pt (pw_or (pt_not (pt_val (pe_callB call_isi rfl T.n_isinstance (by decide +kernel) (pa_cons (pv 2) (pa_cons (pe_ty (n := "tuple") rfl T.n_tuple (by decide +kernel)) pa_nil))))) (pw_or1 (pt_not (pt_val (pe_callB (cr_all rfl) rfl T.n_all (by decide +kernel) (pa_cons (pe_lc (own := [("user", 9)]) (g := (gName 9)) (tt := tYes) (te := (tAndV (tCall (sp_is_integer K) [] E0 (tCons (tVar 9) (tCons (tC (.int 0)) tNil))) (tOp (rI0 fun i j => .bl (decide (i < j))) (tVar 9) (tCB (kLenL K) (tCons (tVar 7) tNil))))) rfl sc_is_crowd.nd (pi_tup (pv 2)) (blkOk_by (N := n_is_crowd) (sc := defScope sis_crowd) (by decide +kernel)) (fun _ _ _ _ _ => (pg_name (i := 9) sc_is_crowd.nd rfl (.inl rfl))) (fun _ _ _ _ _ => pts_nil) (fun _ _ _ _ _ => (pe_and (pe_c (ok_is_integer T) hr (by decide) rfl (pa_cons (pv 9) (pa_cons pe_int pa_nil))) (pe_one (pe_cmpR op_lt (pv 9) (pe_callB c_lenL rfl T.n_len (by decide +kernel) (pa_cons (pv 7) pa_nil)) (nomark _)))))) pa_nil))))))) (pss_one (ps_ret pe_bl)) pss_nil)
  (pss_cons (ps_if (pt_cmpR (op_neD hr.units) (pe_callTy c_listL rfl T.n_list (by decide +kernel) (pa_cons (pv 2) pa_nil)) (pe_callB (cr_sortedSet rfl) rfl T.n_sorted (by decide +kernel) (pa_cons (pe_callTy (c_setTI rfl) rfl T.n_set (by decide +kernel) (pa_cons (pv 2) pa_nil)) pa_nil)) (nomark _)) (pss_one (ps_ret pe_bl)) pss_nil)
  (pss_cons (ps_setLc (i := 8) (own := [("place", 10)]) (g := (gName 10)) (tt := (tB (tCB (rAny K) (tCons (tLc (iTup K (tVar 2)) (gName 9) tYes (tDIn (tVar 10) (tOp (rIxL K) (tVar 7) (tVar 9))) [9]) tNil)))) (te := (tVar 10)) rfl sc_is_crowd.nd rfl rfl (sw_true rfl rfl rfl (by decide +kernel)) (pi_keys (pv 6)) (blkOk_by (N := n_is_crowd) (sc := defScope sis_crowd) (by decide +kernel)) (fun _ _ _ _ _ => (pg_name (i := 10) sc_is_crowd.nd rfl (.inr rfl))) (fun _ _ _ _ _ => pts_one (pt_val (pe_callB (cr_any rfl) rfl T.n_any (by decide +kernel) (pa_cons (pe_lc (own := [("user", 9)]) (g := (gName 9)) (tt := tYes) (te := (tDIn (tVar 10) (tOp (rIxL K) (tVar 7) (tVar 9)))) rfl sc_is_crowd.nd (pi_tup (pv 2)) (blkOk_by (N := n_is_crowd) (sc := ⟨.function, [(".0", .local), ("place", .cell), ("any", .globalImplicit), ("costs", .cell), ("users", .cell)], false, false, []⟩) (by decide +kernel)) (fun _ _ _ _ _ => (pg_name (i := 9) sc_is_crowd.nd rfl (.inl rfl))) (fun _ _ _ _ _ => pts_nil) (fun _ _ _ _ _ => (pe_cmp (pc_din hu (pv 10) (pe_ix ix_list (pv 7) (pv 9) (fun _ _ => rfl)))))) pa_nil)))) (fun _ _ _ _ _ => (pv 10)))
  (pss_one (ps_ret (pe_cmpR op_lt (pe_callB (cr_sum rfl) rfl T.n_sum (by decide +kernel) (pa_cons (pe_lc (own := [("place", 10)]) (g := (gName 10)) (tt := tYes) (te := (tDGet (tVar 6) (tVar 10))) rfl sc_is_crowd.nd (pi_list (pv 8)) (blkOk_by (N := n_is_crowd) (sc := defScope sis_crowd) (by decide +kernel)) (fun _ _ _ _ _ => (pg_name (i := 10) sc_is_crowd.nd rfl (.inl rfl))) (fun _ _ _ _ _ => pts_nil) (fun _ _ _ _ _ => (pe_dget hu (pv 6) (pv 10) (fun _ _ => rfl)))) pa_nil)) (pe_callB c_lenL rfl T.n_len (by decide +kernel) (pa_cons (pv 2) pa_nil)) (nomark _)))))))), ?_⟩
  refine ⟨_, rfl, _, rfl, _, rfl, _, rfl, ?_⟩
  refine ⟨a, s, q, f, g, fv, lp, lg, sl, xs, ps, room, rfl, A0, hq, hfv, fun t r F H1 n1 s1 et er hc => ?_⟩
  refine ⟨t, _, rfl, SqT.of et, rfl, _, _, rfl, _, _, rfl, _, _, rfl, rfl, ?_⟩
  generalize hrows : rowsOf lp lg (ps.map (·.2)) xs = rows at k hc
  have hrl : rows.length = xs.length := by rw [← hrows]; exact rowsOf_len
  have x60 := A0.x60
  obtain ⟨cs, ec1, ec2, ec3⟩ := hc.ex
  have hcl : cs.length = xs.length := by rw [← hrl, ← ec2, List.length_map]
  cases tv with
  | none =>
    obtain ⟨nt, ty, hk⟩ := s1.th hth
    refine ⟨_, rfl, _, _, _, _, false, rfl, .ty _, ty, kit_ty hk, false, rfl, ?_⟩
    exact k H1 s1
  | some vs =>
    obtain ⟨⟨p, rfl, ep⟩, hkv, hl60⟩ := s1.th hth
    refine ⟨_, rfl, _, _, _, _, true, rfl, .ty _, .base (.tup ep), kit_ty (by decide +kernel), true, rfl, ?_⟩
    refine rd_ite (fun e => by cases e) (fun _ => ?_)
    refine ⟨_, rfl, p, rfl, ⟨_, SqT.of ep⟩, ?_⟩
    have ep' : H1 p = some (.tup (vs.map id)) := by rw [List.map_id]; exact ep
    letI : Inhabited V := ⟨.non⟩
    refine k_lcD (data := vs) (toV := id) (walkT (K := K) (a := p) (data := vs) (f := id)) (fun H' s => s.t (SqT.of ep')) (fun _ => true) (fun y => .bl (inR xs.length y)) (by omega) (fun _ _ _ _ _ => evB_yes) (fun i y H' hy _ s' Q' q' => ?_) (fun D H2 n2 s2 e2 => ?_)
    · have hm := List.mem_of_getElem? hy
      refine ⟨_, rfl, y, 0, rfl, s'.kind (hkv y hm), fun H3 s3 => ⟨_, rfl, ?_⟩⟩
      refine rd_ite (fun hg => ?_) (fun hg => ?_)
      · cases y with
        | int i =>
          refine ⟨_, rfl, _, rfl, F, _, rfl, .inl (SqL.of ((s'.trans s3) _ _ ec1)), _, _, rfl, rfl, q' _ _ s3 ?_⟩
          rw [List.length_map, hcl]
          show _ = V.bl (geV 0 (V.int i) && ltV xs.length (V.int i))
          rw [hg]
          rfl
        | _ => cases hg
      · refine q' _ _ s3 ?_
        show _ = V.bl (geV 0 y && _)
        rw [hg]
        rfl
    refine ⟨D, vs.map (inR xs.length), rfl, SqL.of ?_, _, rfl, ?_⟩
    · rw [e2, List.filter_eq_self.mpr fun _ _ => rfl, List.map_map]
      rfl
    have eall : (vs.map (inR xs.length)).all id = vs.all (inR xs.length) := by rw [List.all_map]; rfl
    rw [eall]
    have s12 := s1.trans s2
    refine rd_ite (fun hb => ?_) (fun hb => ?_)
    · have : natsOf xs.length vs = none := by
        unfold natsOf
        rw [if_neg (by simpa using hb)]
      have k2 := k H2 s12
      rw [crowdB_none this] at k2
      exact k2
    · have hb : vs.all (inR xs.length) = true := by simpa using hb
      have hS : natsOf xs.length vs = some (vs.map natV) := by
        unfold natsOf
        rw [if_pos hb]
      generalize hSn : vs.map natV = S at hS
      obtain ⟨hvs, hlt⟩ := natsOf_some hS
      have hres := crowdB_some (U := places lg) (room := room) (c := costOf rows) hS
      rw [hres] at k
      clear hres hS hb eall e2 hkv hth ep' hSn
      subst hvs
      rw [List.length_map] at hl60
      have ep2 := s2 _ _ ep
      have epi : H2 p = some (.tup ((S.map fun i : Nat => (i : Int)).map V.int)) := by rw [ep2, List.map_map]; rfl
      refine ⟨_, rfl, p, _, rfl, .inr (SqT.of epi), fun L n3 => ?_⟩
      have s23 : Sub H2 (upd H2 L (.lst ((S.map fun i : Nat => (i : Int)).map V.int))) := Sub.new n3
      have e3 : (upd H2 L (.lst ((S.map fun i : Nat => (i : Int)).map V.int))) L = some (.lst ((S.map fun i : Nat => (i : Int)).map V.int)) := upd_same
      generalize upd H2 L (.lst ((S.map fun i : Nat => (i : Int)).map V.int)) = H3 at s23 e3 ⊢
      refine ⟨_, rfl, p, S.map fun i : Nat => (i : Int), rfl, SqT.of (s23 _ _ epi), by rw [List.length_map]; exact hl60, fun Z c n4 hc4 => ?_⟩
      have s34 : Sub H3 (upd H3 Z (SetO w Z (fun j => decide (j ∈ S.map fun i : Nat => (i : Int))) c)) := Sub.new n4
      have e4 : (upd H3 Z (SetO w Z (fun j => decide (j ∈ S.map fun i : Nat => (i : Int))) c)) Z = some (SetO w Z (fun j => decide (j ∈ S.map fun i : Nat => (i : Int))) c) := upd_same
      refine ⟨Z, _, c, rfl, e4, by rw [List.length_map] at hc4; omega, fun ns L2' hpw hmem _ n5 => ?_⟩
      have s45 : Sub (upd H3 Z (SetO w Z (fun j => decide (j ∈ S.map fun i : Nat => (i : Int))) c)) (upd (upd H3 Z (SetO w Z (fun j => decide (j ∈ S.map fun i : Nat => (i : Int))) c)) L2' (.lst (ns.map V.int))) := Sub.new n5
      have e5 : (upd (upd H3 Z (SetO w Z (fun j => decide (j ∈ S.map fun i : Nat => (i : Int))) c)) L2' (.lst (ns.map V.int))) L2' = some (.lst (ns.map V.int)) := upd_same
      have s25 := (s23.trans s34).trans s45
      have s15 := s12.trans s25
      refine neD_ints (SqL.of (s45 _ _ (s34 _ _ e3))) (SqL.of e5) ⟨_, rfl, ?_⟩
      rw [set_sorted hpw hmem]
      refine rd_ite (fun hb => ?_) (fun hb => ?_)
      · have : decide (Asc S) = false := by simpa using hb
        rw [this] at k
        exact k _ s15
      · have : decide (Asc S) = true := by simpa using hb
        rw [this, Bool.true_and] at k
        obtain ⟨oR, eR⟩ := id er
        have s1r := s2.trans s25
        have eR5 := s1r _ _ eR
        have eF5 := s1r.costs hc
        have ep5 := s25 _ _ ep2
        have hU13 := places_len A0.tg
        refine ⟨_, rfl, r, oR, rfl, .inl ⟨_, eR5, ?_⟩⟩
        refine k_lcD (data := roomL lg room) (toV := fun e : Str × Int => V.str e.1) (walkK (g := V.int) (l := roomL lg room)) (fun H' s => s _ _ eR5) (fun e => S.any fun u => (costOf rows u e.1).isSome) (fun e => .str e.1) (by rw [roomL, fnL, List.length_map]; omega) (fun i e H' he s' Q' q' => ?_) (fun i e H' _ _ s' Q' q' => ⟨_, rfl, q' _ _ (Sub.refl _) rfl⟩) (fun D2 H6 n6 s6 e6 => ?_)
        · refine ⟨_, rfl, p, rfl, ⟨_, SqT.of (s' _ _ ep5)⟩, ?_⟩
          refine k_lcD (data := S) (toV := fun i : Nat => V.int (i : Int)) (walkT (K := K) (a := p) (data := S) (f := fun i : Nat => V.int (i : Int))) (fun Ha sa => sa.t (SqT.of (s' _ _ ep5))) (fun _ => true) (fun u => .bl (costOf rows u e.1).isSome) (by omega) (fun _ _ _ _ _ => evB_yes) (fun j u Ha hj _ sa Qa qa => ?_) (fun D3 H7 n7 s7 e7 => ?_)
          · have hul := hlt u (List.mem_of_getElem? hj)
            have hru : rows[u]? = some rows[u] := List.getElem?_eq_getElem (by omega)
            obtain ⟨cs2, d, g1, g2, g3⟩ := ((s'.trans sa).costs eF5).row hru
            refine ⟨_, rfl, _, rfl, _, rfl, F, _, _, _, rfl, rfl, SqL.of g1, g2, d, _, rfl, dget_r g3.rd e.1, qa _ _ (Sub.refl _) ?_⟩
            unfold costOf
            rw [hru, Option.bind_some, Option.isSome_map]
          · refine ⟨D3, S.map fun u => (costOf rows u e.1).isSome, rfl, SqL.of ?_, _, rfl, ?_⟩
            · rw [e7, List.filter_eq_self.mpr fun _ _ => rfl, List.map_map]
              rfl
            · rw [List.any_map]
              exact q' _ s7
        -- the sum
        have e6 : H6 D2 = some (.lst ((allowedOf (places lg) (costOf rows) S).map V.str)) := by
          rw [e6]
          unfold roomL fnL allowedOf
          rw [List.filter_map, List.map_map]
          rfl
        refine ⟨_, rfl, D2, rfl, ⟨_, SqL.of e6⟩, ?_⟩
        have hal : (allowedOf (places lg) (costOf rows) S).length ≤ 13 := Nat.le_trans (List.length_filter_le _ _) hU13
        refine k_lcD (data := allowedOf (places lg) (costOf rows) S) (toV := V.str) (walkL (K := K) (a := D2) (data := allowedOf (places lg) (costOf rows) S) (f := V.str)) (fun H' s => s.l (SqL.of e6)) (fun _ => true) (fun p => .int (room p : Int)) (by omega) (fun _ _ _ _ _ => evB_yes) (fun i y H' hy _ s' Q' q' => ?_) (fun D4 H7 n7 s7 e7 => ?_)
        · have hyU := (List.mem_filter.mp (List.mem_of_getElem? hy)).1
          refine ⟨_, rfl, _, rfl, r, .int (room y : Int), rfl, ?_, q' _ _ (Sub.refl _) rfl⟩
          have := dget_r (.inr ⟨oR, s' _ _ (s6 _ _ eR5)⟩ : RD V.int H' r (roomL lg room)) y
          rw [roomL, fnL_get hyU] at this
          exact this
        refine ⟨D4, (allowedOf (places lg) (costOf rows) S).map fun p => (room p : Int), rfl, SqL.of ?_, ?_⟩
        · rw [e7, List.filter_eq_self.mpr fun _ _ => rfl, List.map_map]
          rfl
        refine ⟨_, rfl, p, _, rfl, .inr (SqT.of (s7 _ _ (s6 _ _ ep5))), _, _, rfl, rfl, ?_⟩
        have k7 := k H7 ((s15.trans s6).trans s7)
        unfold tooMany at k7
        rw [sum_room, List.length_map]
        have ed : decide (((sumOn room (allowedOf (places lg) (costOf rows) S) : Nat) : Int) < (S.length : Int)) = decide (sumOn room (allowedOf (places lg) (costOf rows) S) < S.length) := by
          by_cases h : sumOn room (allowedOf (places lg) (costOf rows) S) < S.length
          · rw [decide_eq_true h, decide_eq_true (by omega)]
          · rw [decide_eq_false h, decide_eq_false (by omega)]
        rw [← ed] at k7
        exact k7
end
end K31
set_option Elab.async false
set_option linter.all false
set_option maxRecDepth 100000
set_option maxHeartbeats 4000000
namespace K31
open PySem PySem.Spec PyProof.Rows L2 He
open C8 (Cal Met Mak pe_c pe_mk pe_mt pe_mt0 pe_gc)
/-! ### what is drawn from -/
def dl (l : Addr) (rest : Int) (sm : Addr) (turn : Int) : List (Str × V) := [("large", .ref l), ("rest", .int rest), ("small", .ref sm), ("turn", .int turn)]
theorem dl_large {l sm : Addr} {rest turn : Int} : aGet (dl l rest sm turn) "large" = some (.ref l) := rfl
theorem dl_rest {l sm : Addr} {rest turn : Int} : aGet (dl l rest sm turn) "rest" = some (.int rest) := rfl
theorem dl_small {l sm : Addr} {rest turn : Int} : aGet (dl l rest sm turn) "small" = some (.ref sm) := rfl
theorem dl_turn {l sm : Addr} {rest turn : Int} : aGet (dl l rest sm turn) "turn" = some (.int turn) := rfl
theorem dl_put_rest {l sm : Addr} {rest turn x : Int} : aPut (dl l rest sm turn) "rest" (.int x) = dl l x sm turn := rfl
theorem dl_put_turn {l sm : Addr} {rest turn x : Int} : aPut (dl l rest sm turn) "turn" (.int x) = dl l rest sm x := rfl
/-- the draw's dict at d, its lists at l and sm; its turn is at most T -/
structure DrawAt (H : Hp) (d l sm : Addr) (T : Nat) : Prop where
  ex : ∃ (large small : List Int) (rest turn : Int), H d = some (.dK (kS id (dl l rest sm turn))) ∧ H l = some (.lst (large.map V.int)) ∧ H sm = some (.lst (small.map V.int)) ∧ sm ≠ l ∧ (∀ x ∈ large, 0 ≤ x) ∧ 0 ≤ rest ∧ 0 ≤ turn ∧ turn ≤ T ∧ small.length ≤ 63
/-- all but the draw's own objects stay -/
abbrev SubE (d l : Addr) (H H' : Hp) : Prop := ∀ a o, a ≠ d → a ≠ l → H a = some o → H' a = some o
theorem SubE.refl {d l : Addr} {H : Hp} : SubE d l H H := fun _ _ _ _ e => e
theorem SubE.trans {d l : Addr} {H H1 H2 : Hp} (a : SubE d l H H1) (b : SubE d l H1 H2) : SubE d l H H2 := fun x o n1 n2 e => b x o n1 n2 (a x o n1 n2 e)
theorem Sub.e {d l : Addr} {H H' : Hp} (s : Sub H H') : SubE d l H H' := fun a o _ _ e => s a o e
/-- the heap without the draw's own objects -/
def msk (d l : Addr) (H : Hp) : Hp := fun a => if a = d ∨ a = l then none else H a
theorem msk_sub {d l : Addr} {H : Hp} : Sub (msk d l H) H := fun a o e => by
  unfold msk at e
  split at e
  · cases e
  · exact e
theorem msk_at {d l : Addr} {H : Hp} {a : Addr} (h1 : a ≠ d) (h2 : a ≠ l) : msk d l H a = H a := if_neg fun h => h.elim h1 h2
theorem SubE.m {d l : Addr} {H H' : Hp} (s : SubE d l H H') : Sub (msk d l H) (msk d l H') := fun a o e => by
  unfold msk at e ⊢
  split at e
  · cases e
  · rename_i h
    rw [if_neg h]
    exact s a o (fun z => h (.inl z)) (fun z => h (.inr z)) e
theorem DrawAt.sub {H H' : Hp} {d l sm : Addr} {T : Nat} (s : Sub H H') (h : DrawAt H d l sm T) : DrawAt H' d l sm T := let ⟨la, smm, r, t, a, b, c, e⟩ := h.ex; ⟨la, smm, r, t, s _ _ a, s _ _ b, s _ _ c, e⟩
theorem DrawAt.le {H : Hp} {d l sm : Addr} {T T' : Nat} (h : DrawAt H d l sm T) (k : T ≤ T') : DrawAt H d l sm T' := let ⟨la, smm, r, t, a, b, c, e, f, g, i, j, k'⟩ := h.ex; ⟨la, smm, r, t, a, b, c, e, f, g, i, by omega, k'⟩
theorem DrawAt.ne {H : Hp} {d l sm : Addr} {T : Nat} (h : DrawAt H d l sm T) {a : Addr} {o : HO} (e : H a = some o) (h1 : ∀ kv, o ≠ .dK kv) (h2 : ∀ xs : List Int, o ≠ .lst (xs.map V.int)) : a ≠ d ∧ a ≠ l := by
  obtain ⟨la, smm, r, t, a1, a2, _⟩ := h.ex
  refine ⟨fun z => ?_, fun z => ?_⟩
  · rw [z, a1] at e; exact h1 _ (Option.some.inj e).symm
  · rw [z, a2] at e; exact h2 _ (Option.some.inj e).symm
theorem DrawAt.sm_ne {H : Hp} {d l sm : Addr} {T : Nat} (h : DrawAt H d l sm T) {a : Addr} (e : H a = none) : sm ≠ a := by
  obtain ⟨la, smm, r, t, a1, a2, a3, _⟩ := h.ex
  exact fun z => by rw [z, e] at a3; cases a3
/-- an object that is not the draw's may change -/
theorem DrawAt.put {H : Hp} {d l sm : Addr} {T : Nat} (h : DrawAt H d l sm T) {a : Addr} {o : HO} (h1 : a ≠ d) (h2 : a ≠ l) (h3 : sm ≠ a) : DrawAt (upd H a o) d l sm T := by
  obtain ⟨la, smm, r, t, a1, a2, a3, e⟩ := h.ex
  exact ⟨la, smm, r, t, (upd_ne h1.symm).trans a1, (upd_ne h2.symm).trans a2, (upd_ne h3).trans a3, e⟩
/-- what is new is not the draw's -/
theorem DrawAt.new {H : Hp} {d l sm : Addr} {T : Nat} (h : DrawAt H d l sm T) {a : Addr} (e : H a = none) : a ≠ d ∧ a ≠ l := by
  obtain ⟨la, smm, r, t, a1, a2, _⟩ := h.ex
  refine ⟨fun z => ?_, fun z => ?_⟩
  · rw [z, a1] at e; cases e
  · rw [z, a2] at e; cases e
section
variable {P : Program} {w : World} {K : PySem.W.Frag} {mg : Str → Option Value} {base : Heap}
/-! ### _law_begin -/
def sp_law_begin (K : PySem.W.Frag) : Sp := fun vs H Q _ => ∃ (a : Addr) (ns : List Int), vs = [.ref a] ∧ SqL K H a (ns.map V.int) ∧ ns.length ≤ 63 ∧ ∀ (d l sm : Addr) (H' : Hp), H d = none → Sub H H' → DrawAt H' d l sm 0 → Q (.ref d) H'
abbrev n_law_begin : List Str := ["_law_script", "_law_large", "_law_cell"]
theorem sc_law_begin : FnScope n_law_begin ["_law_script"] (defScope s_law_begin) := ⟨rfl, rfl, rfl, by decide +kernel, rfl, by decide +kernel, by decide +kernel⟩
theorem ok_law_begin (T : Txt K mg) : Cal P w K mg base 1 "_law_begin" (sp_law_begin K) [] := by
  refine cal_of T.f__law_begin T.g__law_begin sc_law_begin (fun vs H Q E h => ?_) (fun _ _ _ _ _ _ us hl => match us, hl with | [_], _ => rfl) (fun f cdv A outer s H vs Q E hr h => ?_)
  · obtain ⟨a, ns, rfl, _⟩ := h
    rfl
  · obtain ⟨a, ns, rfl, ha, h63, k⟩ := h
    have hp : CPow 10 18 := by unfold CPow; decide
    refine ⟨_, (pss_cons (ps_setLc (i := 1) (own := [("_law_cell", 2)]) (g := (gName 2)) (tt := (tTest (tOp (rI0 fun i j => .bl (decide (j ≤ i))) (tCB kAbs (tCons (tVar 2) tNil)) (tOp (rI CPow fun i j => .int (i ^ j.toNat)) (tC (.int 10)) (tC (.int 18)))))) (te := (tOp (rI0 fun i j => .int (i - j)) (tCB kAbs (tCons (tVar 2) tNil)) (tOp (rI CPow fun i j => .int (i ^ j.toNat)) (tC (.int 10)) (tC (.int 18))))) rfl sc_law_begin.nd rfl rfl (sw_true rfl rfl rfl (by decide +kernel)) (pi_list (pv 0)) (blkOk_by (N := n_law_begin) (sc := defScope s_law_begin) (by decide +kernel)) (fun _ _ _ _ _ => (pg_name (i := 2) sc_law_begin.nd rfl (.inl rfl))) (fun _ _ _ _ _ => pts_one (pt_cmpR op_ge (pe_callB call_abs rfl T.n_abs (by decide +kernel) (pa_cons (pv 2) pa_nil)) (pe_op op_pow pe_int pe_int) (nomark _))) (fun _ _ _ _ _ => (pe_op op_sub (pe_callB call_abs rfl T.n_abs (by decide +kernel) (pa_cons (pv 2) pa_nil)) (pe_op op_pow pe_int pe_int))))
  (pss_one (ps_ret (pe_disp (pps_cons pe_str (pv 1) (pps_cons pe_str pe_int (pps_cons pe_str (pe_lc (own := [("_law_cell", 2)]) (g := (gName 2)) (tt := tYes) (te := (tOp (rI (fun _ j => 0 < j) fun i j => .int (i % j)) (tCB kAbs (tCons (tVar 2) tNil)) (tOp (rI CPow fun i j => .int (i ^ j.toNat)) (tC (.int 10)) (tC (.int 18))))) rfl sc_law_begin.nd (pi_list (pv 0)) (blkOk_by (N := n_law_begin) (sc := defScope s_law_begin) (by decide +kernel)) (fun _ _ _ _ _ => (pg_name (i := 2) sc_law_begin.nd rfl (.inl rfl))) (fun _ _ _ _ _ => pts_nil) (fun _ _ _ _ _ => (pe_op op_mod (pe_callB call_abs rfl T.n_abs (by decide +kernel) (pa_cons (pv 2) pa_nil)) (pe_op op_pow pe_int pe_int)))) (pps_cons pe_str pe_int pps_nil)))) (by rfl) (by rfl) (fun z => by cases z) (by decide))))), ?_⟩
    refine ⟨_, rfl, a, rfl, ⟨_, ha⟩, ?_⟩
    refine k_lcD (data := ns) (toV := V.int) (walkL (K := K) (a := a) (data := ns) (f := V.int)) (fun H' s => s.l ha) (fun i => decide (10 ^ (18 : Int).toNat ≤ (if i < 0 then -i else i))) (fun i => .int ((if i < 0 then -i else i) - 10 ^ (18 : Int).toNat)) (by omega) (fun i x H' _ s' Q' q' => ?_) (fun i x H' _ _ s' Q' q' => ?_) (fun l H1 n1 s1 e1 => ?_)
    · exact ⟨_, rfl, x, rfl, 10, 18, rfl, rfl, hp, _, _, rfl, rfl, _, rfl, q' _ (Sub.refl _)⟩
    · exact ⟨_, rfl, x, rfl, 10, 18, rfl, rfl, hp, _, _, rfl, rfl, q' _ _ (Sub.refl _) rfl⟩
    refine fun d nd => ?_
    have s2 : Sub H1 (upd H1 d (.dK [])) := Sub.new nd
    refine ⟨_, rfl, _, rfl, a, rfl, ⟨_, (s1.trans s2).l ha⟩, ?_⟩
    refine k_lcD (data := ns) (toV := V.int) (walkL (K := K) (a := a) (data := ns) (f := V.int)) (fun H' s => (s1.trans (s2.trans s)).l ha) (fun _ => true) (fun i => .int ((if i < 0 then -i else i) % 10 ^ (18 : Int).toNat)) (by omega) (fun _ _ _ _ _ => evB_yes) (fun i x H' _ _ s' Q' q' => ?_) (fun sm H3 n3 s3 e3 => ?_)
    · exact ⟨_, rfl, x, rfl, 10, 18, rfl, rfl, hp, _, _, rfl, rfl, (by show (0 : Int) < 10 ^ 18; decide), q' _ _ (Sub.refl _) rfl⟩
    have nl : H d = none := s1.fresh nd
    refine ⟨s3 _ _ upd_same, [(Sum.inr "large", .ref l), (Sum.inr "rest", .int 0), (Sum.inr "small", .ref sm), (Sum.inr "turn", .int 0)], rfl, by simp, ?_⟩
    have lsm : sm ≠ l := fun z => by rw [z, s2 _ _ e1] at n3; cases n3
    have ld : l ≠ d := fun z => by rw [z, nd] at e1; cases e1
    have smd : sm ≠ d := fun z => by rw [z, upd_same] at n3; cases n3
    refine k d l sm _ nl ((s1.trans (s2.trans s3)).mut nl) ⟨(ns.filter fun i => decide (10 ^ (18 : Int).toNat ≤ (if i < 0 then -i else i))).map fun i => (if i < 0 then -i else i) - 10 ^ (18 : Int).toNat, ns.map fun i => (if i < 0 then -i else i) % 10 ^ (18 : Int).toNat, 0, 0, by rw [upd_same]; rfl, ?_, ?_, lsm, ?_, by decide, by decide, by decide, by rw [List.length_map]; exact h63⟩
    · rw [upd_ne ld, s3 _ _ (s2 _ _ e1), List.map_map]
      rfl
    · rw [upd_ne smd, e3, List.filter_eq_self.mpr fun _ _ => rfl, List.map_map]
      rfl
    · intro x hx
      obtain ⟨i, hi, rfl⟩ := List.mem_map.mp hx
      have := of_decide_eq_true (List.mem_filter.mp hi).2
      omega

/-! ### _law_take -/
def sp_law_take : Sp := fun vs H Q _ => ∃ (d l sm : Addr) (T : Nat) (n : Int), vs = [.ref d, .int n] ∧ DrawAt H d l sm T ∧ T ≤ 1000000000 ∧ 1 ≤ n ∧ n < 1000000 ∧ ∀ (r : Nat) (H' : Hp), (r : Int) < n → SubE d l H H' → DrawAt H' d l sm (T + 1) → Q (.int (r : Int)) H'
abbrev n_law_take : List Str := ["_law_draw", "_law_size", "_law_found_here", "_law_turn", "_law_number", "_law_mixed_here"]
theorem sc_law_take : FnScope n_law_take ["_law_draw", "_law_size"] (defScope s_law_take) := ⟨rfl, rfl, rfl, by decide +kernel, rfl, by decide +kernel, by decide +kernel⟩
theorem ok_law_take (T : Txt K mg) : Cal P w K mg base 1 "_law_take" sp_law_take [] := by
  refine cal_of T.f__law_take T.g__law_take sc_law_take (fun vs H Q E h => ?_) (fun _ _ _ _ _ _ us hl => match us, hl with | [_, _], _ => rfl) (fun f cdv A outer s H vs Q E hr h => ?_)
  · obtain ⟨d, l, sm, t, n, rfl, _⟩ := h
    rfl
  · obtain ⟨d, l, sm, T0, n, rfl, hD, hT, hn1, hn2, k⟩ := h
    have hu := hu_of hr
    obtain ⟨large0, small, rest0, turn, e1, e2, e3, hsl, hla, hre, htu, htT, hs63⟩ := hD.ex
    have smd : sm ≠ d := fun z => by rw [z, e1] at e3; cases e3
    have ld : l ≠ d := fun z => by rw [z, e1] at e2; cases e2
    have fin : ∀ (i : Int) (H' : Hp), 0 ≤ i → i < n → SubE d l H H' → DrawAt H' d l sm (T0 + 1) → Q (.int i) H' := fun i H' h1 h2 h3 h4 => by
      have := k i.toNat H' (by omega) h3 h4
      rwa [show ((i.toNat : Nat) : Int) = i by omega] at this
    refine ⟨_, (pss_cons (ps_while PassesOwn.never (PW.pt (pw_and (pt_cmpR op_eq (pe_dget hu (pv 0) pe_str (fun _ _ => rfl)) pe_int (nomark _)) (pw_and1 (pt_cmpR (op_neD hr.units) (pe_dget hu (pv 0) pe_str (fun _ _ => rfl)) (pe_lst pa_nil) (nomark _)))))
  (pss_one (ps_dput hu (pv 0) pe_str (pe_bm PySem.F.plainAttrs_list PySem.F.slot_list_pop PySem.F.type_list_pop mt_popAt (pe_dget hu (pv 0) pe_str (fun _ _ => rfl)) (pa_cons pe_int pa_nil)) rfl)))
  (pss_cons (ps_if (pt_cmpR op_gt (pe_dget hu (pv 0) pe_str (fun _ _ => rfl)) pe_int (nomark _)) (pss_cons (ps_set (i := 2) sc_law_take.nd rfl (.inl rfl) (pe_op op_mod (pe_dget hu (pv 0) pe_str (fun _ _ => rfl)) (pv 1)))
  (pss_cons (ps_dput hu (pv 0) pe_str (pe_op op_fdivN (pe_dget hu (pv 0) pe_str (fun _ _ => rfl)) (pv 1)) rfl)
  (pss_one (ps_ret (pv 2))))) pss_nil)
  (pss_cons (ps_dput hu (pv 0) pe_str (pe_op op_add (pe_dget hu (pv 0) pe_str (fun _ _ => rfl)) pe_int) rfl)
  (pss_cons (ps_par (i := 3) (j := 4) rfl sc_law_take.nd rfl rfl (by decide) rfl rfl (pa_cons (pe_dget hu (pv 0) pe_str (fun _ _ => rfl)) (pa_cons pe_int pa_nil)) (by rfl))
  (pss_cons (ps_if (pt_cmpR (op_neD hr.units) (pe_dget hu (pv 0) pe_str (fun _ _ => rfl)) (pe_lst pa_nil) (nomark _)) (pss_one (ps_set (i := 4) sc_law_take.nd rfl (.inl rfl) (pe_ix ix_list (pe_dget hu (pv 0) pe_str (fun _ _ => rfl)) (pe_op op_mod (pv 3) (pe_callB c_lenL rfl T.n_len (by decide +kernel) (pa_cons (pe_dget hu (pv 0) pe_str (fun _ _ => rfl)) pa_nil))) (fun _ _ => rfl)))) pss_nil)
  (pss_cons (ps_set (i := 5) sc_law_take.nd rfl (.inl rfl) (pe_op op_mod (pe_op op_pow (pe_op op_add (pe_op op_add (pe_op op_mod (pv 4) pe_int) (pe_op op_mul pe_int (pv 3))) pe_int) pe_int) pe_int))
  (pss_one (ps_ret (pe_op op_mod (pe_op op_fdivN (pe_op op_mod (pe_op op_pow (pe_op op_add (pv 5) (pe_op op_mul pe_int (pv 3))) pe_int) pe_int) pe_int) (pv 1)))))))))), ?_⟩
    refine ⟨fun m σ H' => σ = [some (.ref d), some (.int n), none, none, none, none] ∧ SubE d l H H' ∧ ∃ (large : List Int) (rest : Int), H' d = some (.dK (kS id (dl l rest sm turn))) ∧ H' l = some (.lst (large.map V.int)) ∧ (∀ x ∈ large, 0 ≤ x) ∧ 0 ≤ rest ∧ m = large.length,
      ⟨_, rfl, SubE.refl, large0, rest0, e1, e2, hla, hre, rfl⟩, ?_⟩
    rintro m σ H1 ⟨rfl, s1, large, rest, d1, l1, hla1, hre1, rfl⟩
    have g : ∀ {H' : Hp} {r t : Int}, H' d = some (.dK (kS id (dl l r sm t))) → ∀ (key : Str) (v : V), aGet (dl l r sm t) key = some v → DGet H' d (.str key) (some v) := fun e key v h => by
      have := dget_d e key
      rwa [h] at this
    have sm1 : H1 sm = some (.lst (small.map V.int)) := s1 _ _ smd hsl e3
    refine ⟨_, rfl, d, .int rest, rfl, g d1 _ _ rfl, rfl, _, rfl, ?_⟩
    refine rd_ite (fun h0 => ?gh0) (fun _ => ?ex)
    case' gh0 =>
      have h0 : rest = 0 := V.int.inj (of_decide_eq_true h0)
      refine ⟨_, rfl, d, .ref l, rfl, g d1 _ _ rfl, sz (by simp), fun z nz => ?_⟩
      have s12 : Sub H1 (upd H1 z (.lst [])) := Sub.new nz
      refine neD_nil (xs := large.map V.int) (SqL.of (s12 _ _ l1)) (dp_ints large) (shaped_ints large) (SqL.of upd_same) ⟨_, rfl, ?_⟩
      refine rd_ite (fun hne => ?gne) (fun _ => ?ex2)
    case gne =>
      cases large with
      | nil => exact absurd hne (by simp)
      | cons x large =>
        refine ⟨fun σ H' => σ = [some (.ref d), some (.int n), none, none, none, none] ∧ SubE d l H H' ∧ ∃ (lg : List Int) (rest : Int), lg.length = large.length ∧ H' d = some (.dK (kS id (dl l rest sm turn))) ∧ H' l = some (.lst (lg.map V.int)) ∧ (∀ x ∈ lg, 0 ≤ x) ∧ 0 ≤ rest,
          fun σ' H' ⟨h1, h2, lg, r, h3, h4, h5, h6, h7⟩ => ⟨large.length, by simp, h1, h2, lg, r, h4, h5, h6, h7, h3.symm⟩, ?_⟩
        have d2 := s12 _ _ d1
        have l2 := s12 _ _ l1
        refine ⟨_, rfl, d, .ref l, rfl, g d2 _ _ rfl, .inl ⟨rfl, _, SqL.of l2⟩, l, _, 0, 0, .int x, rfl, rfl, l2, by decide, by decide, by unfold seqIndex?; simp, rfl, ?_⟩
        have ex : List.eraseIdx ((x :: large).map V.int) 0 = large.map V.int := rfl
        rw [ex]
        have d3 : (upd (upd H1 z (.lst [])) l (.lst (large.map V.int))) d = some (.dK (kS id (dl l rest sm turn))) := (upd_ne ld.symm).trans d2
        refine ⟨_, rfl, d, _, rfl, dput_d (f := id) d3 "rest" (.int x) (by simp [dl]), ?_⟩
        refine ⟨rfl, fun a o n1 n2 e => ?_, large, x, rfl, by rw [upd_same, dl_put_rest], (upd_ne ld).trans upd_same, fun y hy => hla1 y (List.mem_cons_of_mem _ hy), hla1 x (List.mem_cons_self ..)⟩
        rw [upd_ne n1, upd_ne n2]
        exact s12 _ _ (s1 a o n1 n2 e)
    case' ex2 =>
      have s2 := s1.trans (s12.e (d := d) (l := l))
      have d2 := s12 _ _ d1
      have l2 := s12 _ _ l1
      have sm2 := s12 _ _ sm1
      generalize upd H1 z (.lst []) = H2 at s2 d2 l2 sm2 ⊢
      clear s12 nz d1 l1 sm1 s1
    case' ex =>
      have s2 := s1
      have d2 := d1
      have l2 := l1
      have sm2 := sm1
      clear s1 d1 l1 sm1
      generalize H1 = H2 at s2 d2 l2 sm2 ⊢
    all_goals
      refine ⟨_, rfl, d, .int rest, rfl, g d2 _ _ rfl, _, _, rfl, rfl, _, rfl, ?_⟩
      refine rd_ite (fun hpos => ?_) (fun _ => ?_)
      · refine ⟨_, rfl, d, .int rest, rfl, g d2 _ _ rfl, _, rfl, _, _, rfl, rfl, by show (0 : Int) < n; omega, ?_⟩
        refine ⟨_, rfl, d, .int rest, rfl, g d2 _ _ rfl, _, rfl, _, _, rfl, rfl, ⟨by show n ≠ 0; omega, by show n.natAbs < 1073741824; omega⟩, ?_⟩
        refine ⟨_, rfl, d, _, rfl, dput_d (f := id) d2 "rest" (.int (rest.fdiv n)) (by simp [dl]), ?_⟩
        refine ⟨_, rfl, fin (rest % n) _ (Int.emod_nonneg _ (by omega)) (Int.emod_lt_of_pos _ (by omega)) (fun a o n1 n2 e => (upd_ne n1).trans (s2 a o n1 n2 e)) ⟨large, small, rest.fdiv n, turn, by rw [upd_same, dl_put_rest], (upd_ne ld).trans l2, (upd_ne smd).trans sm2, hsl, hla1, ?_, htu, by push_cast; omega, hs63⟩⟩
        rw [Int.fdiv_eq_ediv_of_nonneg _ (by omega)]
        exact Int.ediv_nonneg hre1 (by omega)
      · refine ⟨_, rfl, d, .int turn, rfl, g d2 _ _ rfl, _, _, rfl, rfl, ?_⟩
        refine ⟨_, rfl, d, _, rfl, dput_d (f := id) d2 "turn" (.int (turn + 1)) (by simp [dl]), ?_⟩
        rw [dl_put_turn]
        have s3 : SubE d l H (upd H2 d (.dK (kS id (dl l rest sm (turn + 1))))) := fun a o n1 n2 e => (upd_ne n1).trans (s2 a o n1 n2 e)
        have d3 : (upd H2 d (.dK (kS id (dl l rest sm (turn + 1))))) d = some (.dK (kS id (dl l rest sm (turn + 1)))) := upd_same
        have l3 : (upd H2 d (.dK (kS id (dl l rest sm (turn + 1))))) l = some (.lst (large.map V.int)) := (upd_ne ld).trans l2
        have sm3 : (upd H2 d (.dK (kS id (dl l rest sm (turn + 1))))) sm = some (.lst (small.map V.int)) := (upd_ne smd).trans sm2
        generalize upd H2 d (.dK (kS id (dl l rest sm (turn + 1)))) = H3 at s3 d3 l3 sm3 ⊢
        have hD3 : DrawAt H3 d l sm (T0 + 1) := ⟨large, small, rest, turn + 1, d3, l3, sm3, hsl, hla1, hre1, by omega, by push_cast; omega, hs63⟩
        -- the end, whatever the number is
        have last : ∀ (num : Int) (H4 : Hp), Sub H3 H4 → ∀ (x5 : Int), 0 ≤ x5 → x5 < 2147483647 → Q (.int ((((x5 + 104729 * (turn + 1)) ^ (5 : Int).toNat % 2147483587).fdiv 13) % n)) H4 := fun num H4 s34 x5 h1 h2 =>
          fin _ H4 (Int.emod_nonneg _ (by omega)) (Int.emod_lt_of_pos _ (by omega)) (s3.trans s34.e) (hD3.sub s34)
        have mid : ∀ (num : Int) (H4 : Hp), Sub H3 H4 → CPow (num % 2147483629 + 69621 * (turn + 1) + 12345) 3 ∧ ∀ x5 : Int, 0 ≤ x5 → x5 < 2147483647 → CPow (x5 + 104729 * (turn + 1)) 5 := fun num H4 _ => by
          have h1 := Int.emod_nonneg num (show (2147483629 : Int) ≠ 0 by decide)
          have h2 := Int.emod_lt_of_pos num (show (0 : Int) < 2147483629 by decide)
          refine ⟨⟨by decide, by decide, ?_⟩, fun x5 h3 h4 => ⟨by decide, by decide, ?_⟩⟩
          · generalize num % 2147483629 = y at h1 h2 ⊢
            have : (2 : Nat) ^ 64 = 18446744073709551616 := by decide
            omega
          · have : (2 : Nat) ^ 64 = 18446744073709551616 := by decide
            omega
        refine ⟨_, rfl, d, .int (turn + 1), rfl, g d3 _ _ rfl, _, _, rfl, ?_⟩
        refine ⟨_, rfl, d, .ref sm, rfl, g d3 _ _ rfl, sz (by simp), fun z2 nz2 => ?_⟩
        have s34 : Sub H3 (upd H3 z2 (.lst [])) := Sub.new nz2
        refine neD_nil (xs := small.map V.int) (SqL.of (s34 _ _ sm3)) (dp_ints small) (shaped_ints small) (SqL.of upd_same) ⟨_, rfl, ?_⟩
        generalize upd H3 z2 (.lst []) = H4 at s34 ⊢
        have d4 := s34 _ _ d3
        have sm4 := s34 _ _ sm3
        refine rd_ite (fun hne => ?_) (fun _ => ?_)
        · have hl0 : 0 < small.length := by
            cases small with
            | nil => exact absurd hne (by simp)
            | cons _ _ => simp
          have hat : ∃ num : Int, atI (small.map V.int) ((turn + 1) % ((small.map V.int).length : Int)) = some (.int num) := by
            rw [List.length_map]
            have hi1 := Int.emod_nonneg (turn + 1) (show (small.length : Int) ≠ 0 by omega)
            have hi2 := Int.emod_lt_of_pos (turn + 1) (show (0 : Int) < (small.length : Int) by omega)
            generalize (turn + 1) % (small.length : Int) = ix at hi1 hi2
            obtain ⟨j, rfl⟩ : ∃ j : Nat, ix = (j : Int) := ⟨ix.toNat, by omega⟩
            have hj : j < small.length := by omega
            refine ⟨small[j], ?_⟩
            rw [atI_n, List.getElem?_map, List.getElem?_eq_getElem hj]
            rfl
          obtain ⟨num, hat⟩ := hat
          refine ⟨_, rfl, d, .ref sm, rfl, g d4 _ _ rfl, _, rfl, _, rfl, d, .ref sm, rfl, g d4 _ _ rfl, sm, _, rfl, .inl (SqL.of sm4), _, _, rfl, rfl, (by rw [List.length_map]; omega), sm, _, _, .int num, rfl, rfl, SqL.of sm4, hat, ?_⟩
          refine ⟨_, rfl, _, _, rfl, rfl, (by show (0 : Int) < 2147483629; decide), _, rfl, _, _, rfl, rfl, .inl ⟨by decide, by decide⟩, _, _, rfl, rfl, _, _, rfl, rfl, _, _, rfl, rfl, (mid num H4 s34).1, _, _, rfl, rfl, (by show (0 : Int) < 2147483647; decide), ?_⟩
          have q1 := Int.emod_nonneg ((num % 2147483629 + 69621 * (turn + 1) + 12345) ^ (3 : Int).toNat) (show (2147483647 : Int) ≠ 0 by decide)
          have q2 := Int.emod_lt_of_pos ((num % 2147483629 + 69621 * (turn + 1) + 12345) ^ (3 : Int).toNat) (show (0 : Int) < 2147483647 by decide)
          have q3 := (mid num H4 s34).2 _ q1 q2
          have q4 := last num H4 s34 _ q1 q2
          exact ⟨_, rfl, _, rfl, _, _, rfl, rfl, .inl ⟨by decide, by decide⟩, _, _, rfl, rfl, _, _, rfl, rfl, q3, _, _, rfl, rfl, (by show (0 : Int) < 2147483587; decide), _, _, rfl, rfl, ⟨by decide, by decide⟩, _, rfl, _, _, rfl, rfl, (by show (0 : Int) < n; omega), q4⟩
        · refine ⟨_, rfl, _, _, rfl, rfl, (by show (0 : Int) < 2147483629; decide), _, rfl, _, _, rfl, rfl, .inl ⟨by decide, by decide⟩, _, _, rfl, rfl, _, _, rfl, rfl, _, _, rfl, rfl, (mid 0 H4 s34).1, _, _, rfl, rfl, (by show (0 : Int) < 2147483647; decide), ?_⟩
          have q1 := Int.emod_nonneg ((0 % 2147483629 + 69621 * (turn + 1) + 12345) ^ (3 : Int).toNat) (show (2147483647 : Int) ≠ 0 by decide)
          have q2 := Int.emod_lt_of_pos ((0 % 2147483629 + 69621 * (turn + 1) + 12345) ^ (3 : Int).toNat) (show (0 : Int) < 2147483647 by decide)
          have q3 := (mid 0 H4 s34).2 _ q1 q2
          have q4 := last 0 H4 s34 _ q1 q2
          exact ⟨_, rfl, _, rfl, _, _, rfl, rfl, .inl ⟨by decide, by decide⟩, _, _, rfl, rfl, _, _, rfl, rfl, q3, _, _, rfl, rfl, (by show (0 : Int) < 2147483587; decide), _, _, rfl, rfl, ⟨by decide, by decide⟩, _, rfl, _, _, rfl, rfl, (by show (0 : Int) < n; omega), q4⟩
end
end K31
set_option Elab.async false
set_option linter.all false
set_option maxRecDepth 100000
set_option maxHeartbeats 4000000
namespace K31
open PySem PySem.Spec PyProof.Rows L2 He
open C8 (Cal Met Mak pe_c pe_mk pe_mt pe_mt0 pe_gc)
section
variable {P : Program} {w : World} {K : PySem.W.Frag} {mg : Str → Option Value} {base : Heap}
theorem DrawAt.l_at {H : Hp} {d l sm : Addr} {T : Nat} (h : DrawAt H d l sm T) : ∃ xs, H l = some (.lst xs) := let ⟨la, _, _, _, _, b, _⟩ := h.ex; ⟨_, b⟩
/-- what may be picked from: a list, a tuple, a text; it is not the draw's -/
def SeqV (K : PySem.W.Frag) (H : Hp) (x : V) (ys : List V) : Prop := (∃ p, x = .ref p ∧ (SqL K H p ys ∨ SqT K H p ys)) ∨ ∃ z : Str, x = .str z ∧ z.length ≤ 100 ∧ ys = z.cps.toList.map fun c => V.str ⟨#[c]⟩
theorem Sub.seq {H H' : Hp} {x : V} {ys : List V} (s : Sub H H') (h : SeqV K H x ys) : SeqV K H' x ys := by
  rcases h with ⟨p, e, h⟩ | h
  · exact .inl ⟨p, e, h.imp s.l s.t⟩
  · exact .inr h
/-! ### _law_pick -/
def sp_law_pick (K : PySem.W.Frag) : Sp := fun vs H Q _ => ∃ (d l sm : Addr) (T : Nat) (x : V) (ys : List V), vs = [.ref d, x] ∧ DrawAt H d l sm T ∧ T ≤ 1000000000 ∧ SeqV K (msk d l H) x ys ∧ 1 ≤ ys.length ∧ ys.length < 1000000 ∧ ∀ (y : V) (H' : Hp), y ∈ ys → SubE d l H H' → DrawAt H' d l sm (T + 1) → Q y H'
abbrev n_law_pick : List Str := ["_law_draw", "_law_some"]
theorem sc_law_pick : FnScope n_law_pick ["_law_draw", "_law_some"] (defScope s_law_pick) := ⟨rfl, rfl, rfl, by decide +kernel, rfl, by decide +kernel, by decide +kernel⟩
theorem ok_law_pick (T : Txt K mg) : Cal P w K mg base 2 "_law_pick" (sp_law_pick K) [] := by
  refine cal_of T.f__law_pick T.g__law_pick sc_law_pick (fun vs H Q E h => ?_) (fun _ _ _ _ _ _ us hl => match us, hl with | [_, _], _ => rfl) (fun f cdv A outer s H vs Q E hr h => ?_)
  · obtain ⟨d, l, sm, t, x, ys, rfl, _⟩ := h
    rfl
  · obtain ⟨d, l, sm, T0, x, ys, rfl, hD, hT, hx, h1, h2, k⟩ := h
    refine ⟨_, (pss_one (ps_ret (pe_ix ix_seq (pv 1) (pe_c (ok_law_take T) hr (by decide) rfl (pa_cons (pv 0) (pa_cons (pe_callB call_len rfl T.n_len (by decide +kernel) (pa_cons (pv 1) pa_nil)) pa_nil))) (fun _ _ => rfl)))), ?_⟩
    have hx2 := (msk_sub (d := d) (l := l) (H := H)).seq hx
    have lv : LenV K x H ys.length := by
      rcases hx2 with ⟨p, rfl, h | h⟩ | ⟨z, rfl, hz, rfl⟩
      · exact .inl ⟨ys, h, rfl⟩
      · exact .inr ⟨ys, h, rfl⟩
      · exact ⟨sz (by omega), by rw [List.length_map, Array.length_toList]; rfl⟩
    refine ⟨_, rfl, _, rfl, _, rfl, x, ys.length, rfl, lv, ?_⟩
    refine ⟨d, l, sm, T0, (ys.length : Int), rfl, hD, hT, by omega, by omega, fun r H' hr' s' hD' => ?_⟩
    have hr2 : r < ys.length := by omega
    have hx3 := (msk_sub (d := d) (l := l) (H := H')).seq (s'.m.seq hx)
    have fin := k ys[r] H' (List.getElem_mem hr2) s' hD'
    rcases hx3 with ⟨p, rfl, h | h⟩ | ⟨z, rfl, hz, rfl⟩
    · exact .inl ⟨p, ys, r, ys[r], rfl, rfl, h, by rw [atI_n, List.getElem?_eq_getElem hr2], fin⟩
    · exact .inr (.inl ⟨p, ys, r, ys[r], rfl, rfl, h, by rw [atI_n, List.getElem?_eq_getElem hr2], fin⟩)
    · rw [List.getElem_map] at fin
      have hr3 : r < z.cps.toList.length := by rw [List.length_map] at hr2; exact hr2
      exact .inr (.inr ⟨z, r, z.cps.toList[r], rfl, rfl, sz (by omega), by rw [atI_n, List.getElem?_eq_getElem hr3], fin⟩)

/-! ### _law_mixed -/
theorem erase_perm {α : Type} : ∀ (l : List α) (i : Nat) (h : i < l.length), (l[i] :: l.eraseIdx i).Perm l
  | a :: l, 0, _ => List.Perm.refl _
  | a :: l, i + 1, h => by
    have h' : i < l.length := by simpa using h
    have ih := erase_perm l i h'
    show (l[i] :: a :: l.eraseIdx i).Perm (a :: l)
    exact (List.Perm.swap a l[i] _).trans (ih.cons a)
def FlatOk (v : V) : Prop := (∃ z, v = .str z ∧ PyData.strOk z = true) ∨ ∃ i, v = .int i
theorem dp_flat : ∀ {xs : List V}, (∀ x ∈ xs, FlatOk x) → ∃ ds, (∀ (K : PySem.W.Frag) (H : Hp), DpAll K H xs ds) ∧ PyData.canLayAll0 ds = true ∧ PyData.depthAll ds = 0
  | [], _ => ⟨[], fun _ _ => .nil, rfl, by simp [PyData.depthAll]⟩
  | x :: xs, h => by
    obtain ⟨ds, h1, h2, h3⟩ := dp_flat fun y hy => h y (List.mem_cons_of_mem _ hy)
    rcases h x (List.mem_cons_self ..) with ⟨z, rfl, hz⟩ | ⟨i, rfl⟩
    · refine ⟨.str z :: ds, fun K H => .cons (.str z) (h1 K H), ?_, by simp [PyData.depthAll, PyData.depth, h3]⟩
      show (PyData.strOk z && PyData.canLayAll0 ds) = true
      rw [hz, h2]; rfl
    · refine ⟨.int i :: ds, fun K H => .cons (.int i) (h1 K H), ?_, by simp [PyData.depthAll, PyData.depth, h3]⟩
      show (true && PyData.canLayAll0 ds) = true
      rw [h2]; rfl
theorem ne_flat {H : Hp} {a b : Addr} {xs : List V} {Q : VK} (h : ∀ x ∈ xs, FlatOk x) (ha : SqL K H a xs) (hb : SqL K H b []) (q : Q (.bl (!xs.isEmpty)) H) : rNeD K (.ref a) (.ref b) H Q := by
  obtain ⟨ds, h1, h2, h3⟩ := dp_flat h
  refine neD_nil ha (h1 K H) ?_ hb q
  show (PyData.canLayAll0 ds && decide (PyData.depth (.list ds) ≤ 64)) = true
  rw [h2]
  simp [PyData.depth, h3]
def sp_law_mixed (K : PySem.W.Frag) : Sp := fun vs H Q _ => ∃ (d l sm : Addr) (T : Nat) (p : Addr) (ys : List V), vs = [.ref d, .ref p] ∧ DrawAt H d l sm T ∧ T ≤ 900000000 ∧ SqL K H p ys ∧ ys.length ≤ 1000 ∧ (∀ y ∈ ys, FlatOk y) ∧
  ∀ (q : Addr) (H' : Hp) (zs : List V), H q = none → SubE d l H H' → DrawAt H' d l sm (T + ys.length) → H' q = some (.lst zs) → zs.Perm ys → Q (.ref q) H'
abbrev n_law_mixed : List Str := ["_law_draw", "_law_some", "_law_left", "_law_found_here"]
theorem sc_law_mixed : FnScope n_law_mixed ["_law_draw", "_law_some"] (defScope s_law_mixed) := ⟨rfl, rfl, rfl, by decide +kernel, rfl, by decide +kernel, by decide +kernel⟩
theorem ok_law_mixed (T : Txt K mg) : Cal P w K mg base 2 "_law_mixed" (sp_law_mixed K) [] := by
  refine cal_of T.f__law_mixed T.g__law_mixed sc_law_mixed (fun vs H Q E h => ?_) (fun _ _ _ _ _ _ us hl => match us, hl with | [_, _], _ => rfl) (fun f cdv A outer s H vs Q E hr h => ?_)
  · obtain ⟨d, l, sm, t, p, ys, rfl, _⟩ := h
    rfl
  · obtain ⟨d, l, sm, T0, p, ys, rfl, hD, hT, hp, hl, hfl, k⟩ := h
    refine ⟨_, (pss_cons (ps_par (i := 2) (j := 3) rfl sc_law_mixed.nd rfl rfl (by decide) rfl rfl (pa_cons (pe_callTy c_listL rfl T.n_list (by decide +kernel) (pa_cons (pv 1) pa_nil)) (pa_cons (pe_lst pa_nil) pa_nil)) (by rfl))
  (pss_cons (ps_while PassesOwn.never (pt_cmpR (op_neD hr.units) (pv 2) (pe_lst pa_nil) (nomark _))
  (pss_one (ps_expr (pe_bm PySem.F.plainAttrs_list PySem.F.slot_list_append PySem.F.type_list_append mt_append (pv 3) (pa_cons (pe_bm PySem.F.plainAttrs_list PySem.F.slot_list_pop PySem.F.type_list_pop mt_popAt (pv 2) (pa_cons (pe_c (ok_law_take T) hr (by decide) rfl (pa_cons (pv 0) (pa_cons (pe_callB c_lenL rfl T.n_len (by decide +kernel) (pa_cons (pv 2) pa_nil)) pa_nil))) pa_nil)) pa_nil)))))
  (pss_one (ps_ret (pv 3))))), ?_⟩
    refine ⟨_, rfl, p, ys, rfl, .inl hp, fun L nL => ?_⟩
    have sL : Sub H (upd H L (.lst ys)) := Sub.new nL
    refine ⟨by decide, fun F nF => ?_⟩
    have sF : Sub (upd H L (.lst ys)) (upd (upd H L (.lst ys)) F (.lst [])) := Sub.new nF
    have nF' : H F = none := sL.fresh nF
    have LF : L ≠ F := ne_of_none upd_same nF
    obtain ⟨L1, L2'⟩ := hD.new nL
    obtain ⟨F1, F2⟩ := hD.new nF'
    refine ⟨_, _, rfl, ?_⟩
    refine ⟨fun m σ H' => σ = [some (.ref d), some (.ref p), some (.ref L), some (.ref F)] ∧ SubE d l H H' ∧ ∃ lf fd : List V, DrawAt H' d l sm (T0 + fd.length) ∧ H' L = some (.lst lf) ∧ H' F = some (.lst fd) ∧ (fd ++ lf).Perm ys ∧ m = lf.length,
      ⟨_, rfl, (sL.trans sF).e, ys, [], (hD.sub sL).sub sF, sF _ _ upd_same, upd_same, List.Perm.refl _, rfl⟩, ?_⟩
    rintro m σ H1 ⟨rfl, s1, lf, fd, hD1, eL, eF, pm, rfl⟩
    have hfl1 : ∀ x ∈ lf, FlatOk x := fun x hx => hfl x (pm.mem_iff.mp (List.mem_append_right _ hx))
    have hlen : fd.length + lf.length = ys.length := by rw [← List.length_append]; exact pm.length_eq
    refine ⟨_, rfl, sz (by simp), fun z nz => ?_⟩
    have s12 : Sub H1 (upd H1 z (.lst [])) := Sub.new nz
    refine ne_flat hfl1 (SqL.of (s12 _ _ eL)) (SqL.of upd_same) ⟨_, rfl, ?_⟩
    have eL2 := s12 _ _ eL
    have eF2 := s12 _ _ eF
    have hD2 := hD1.sub s12
    have s2 := s1.trans (s12.e (d := d) (l := l))
    generalize upd H1 z (.lst []) = H2 at s2 eL2 eF2 hD2 ⊢
    refine rd_ite (fun hne => ?_) (fun hne => ?_)
    · have hpos : 0 < lf.length := by
        cases lf with
        | nil => exact absurd hne (by simp)
        | cons _ _ => simp
      refine ⟨fun σ H' => σ = [some (.ref d), some (.ref p), some (.ref L), some (.ref F)] ∧ SubE d l H H' ∧ ∃ lf' fd' : List V, lf'.length + 1 = lf.length ∧ DrawAt H' d l sm (T0 + fd'.length) ∧ H' L = some (.lst lf') ∧ H' F = some (.lst fd') ∧ (fd' ++ lf').Perm ys,
        fun σ' H' ⟨h1, h2, lf', fd', h3, h4, h5, h6, h7⟩ => ⟨lf'.length, by omega, h1, h2, lf', fd', h4, h5, h6, h7, rfl⟩, ?_⟩
      refine ⟨_, rfl, .inl ⟨rfl, _, SqL.of eF2⟩, _, rfl, .inl ⟨rfl, _, SqL.of eL2⟩, _, rfl, _, rfl, L, lf, rfl, .inl (SqL.of eL2), ?_⟩
      refine ⟨d, l, sm, T0 + fd.length, (lf.length : Int), rfl, hD2, by omega, by omega, by omega, fun r H3 hr3 s3 hD3 => ?_⟩
      have hr4 : r < lf.length := by omega
      have eL3 := s3 _ _ L1 L2' eL2
      have eF3 := s3 _ _ F1 F2 eF2
      refine ⟨L, lf, (r : Int), r, lf[r], rfl, rfl, eL3, by omega, by omega, ?_, List.getElem?_eq_getElem hr4, ?_⟩
      · unfold seqIndex?
        simp [hr4]
        omega
      have eF4 : (upd H3 L (.lst (lf.eraseIdx r))) F = some (.lst fd) := (upd_ne LF.symm).trans eF3
      refine ⟨F, fd, lf[r], rfl, rfl, eF4, szl (by omega), ?_⟩
      refine ⟨rfl, fun a o n1 n2 e => ?_, lf.eraseIdx r, fd ++ [lf[r]], ?_, ?_, (upd_ne LF).trans upd_same, upd_same, ?_⟩
      · rw [upd_ne (ne_of_none e nF'), upd_ne (ne_of_none e nL)]
        exact s3 a o n1 n2 (s2 a o n1 n2 e)
      · rw [List.length_eraseIdx_of_lt hr4]; omega
      · rw [List.length_append]
        exact (hD3.put L1 L2' (hD.sm_ne nL)).put F1 F2 (hD.sm_ne nF')
      · refine List.Perm.trans ?_ pm
        rw [List.append_assoc]
        exact List.Perm.append_left _ (erase_perm lf r hr4)
    · have : lf = [] := by
        cases lf with
        | nil => rfl
        | cons _ _ => exact absurd hne (by simp)
      subst this
      rw [List.append_nil] at pm
      have hlen2 : fd.length = ys.length := pm.length_eq
      exact ⟨_, rfl, k F H2 fd nF' s2 (by rw [← hlen2]; exact hD2) eF2 pm⟩
end
end K31
set_option Elab.async false
set_option linter.all false
set_option maxRecDepth 100000
set_option maxHeartbeats 4000000
/-! list.count of a text. -/
namespace K31
open PySem PySem.Spec PyProof.Rows L2 He
section
variable {X : Cx}
def rCntS (K : PySem.W.Frag) : V → List V → Hp → VK → Prop := fun x xs H Q => ∃ (p : Addr) (zs : List Str) (z : Str), x = .ref p ∧ xs = [.str z] ∧ SqL K H p (zs.map V.str) ∧ Q (.int (zs.count z : Nat)) H
theorem eqU_count {z : Str} : ∀ {zs : List Str} {us : List Value}, Vals (zs.map V.str) us → us.countP (eqU (.str z)) = zs.count z
  | [], _, .nil => rfl
  | y :: zs, u :: us, .cons r t => by
    rw [List.countP_cons, List.count_cons, eqU_count t, eqU_of r rfl]
    by_cases h : y = z
    · subst h
      simp [eqV]
    · simp [eqV, h]
theorem mt_countS : MtR X "list.count" (rCntS X.K) := by
  intro pins s σ H x xs v us Q I rx rxs h
  obtain ⟨p, zs, z, rfl, rfl, hs, q⟩ := h
  cases rx
  obtain ⟨u, rfl, ru⟩ := rxs.one
  obtain ⟨its, rv, ⟨⟨cls, dd, data, sl⟩, n, ho, hc, hdn, hd⟩, hlen⟩ := I.list hs
  simp only at hc hd
  subst hc hd
  have fl : (zs.map V.str).all flatV = true := List.all_eq_true.mpr fun x hx => by
    obtain ⟨_, _, rfl⟩ := List.mem_map.mp hx
    rfl
  refine call_meets PySem.F.slot_list_count ⟨_, ho, rfl⟩ PySem.F.entry_list_count (PySem.F.args_list_count_2 _ _)
    (SeqAt.list_countAt p its.toArray n dd sl u (eqU (.str z))) ⟨ho, fun y hy => mem_eqAt (x := .str z) ru rfl rv fl y (by simpa using hy), ?_⟩
  refine ⟨.int (zs.count z : Nat), H, I.tok _, ⟨s.toks, ?_⟩, q⟩
  show Value.int ((its.toArray.toList.countP (eqU (.str z)) : Nat) : Int) s.toks = Value.int ((zs.count z : Nat) : Int) s.toks
  rw [List.toList_toArray, eqU_count rv]
end
end K31
set_option Elab.async false
set_option linter.all false
set_option maxRecDepth 100000
set_option maxHeartbeats 4000000
/-! the law's sizes leave, place by place, what the goals hold. -/
namespace K31
open PySem PySem.Spec PyProof.Rows L2 He
theorem resid_sum (g : Str → Str) (z : Str → Int) (p : Str) : ∀ (ms : List Str) (b : Str → Int), (ms.foldl (resStep g z) b) p = b p - (ms.map fun m => if p = g m then z m else 0).sum
  | [], b => by simp
  | m :: ms, b => by
    rw [List.foldl_cons, resid_sum g z p ms, List.map_cons, List.sum_cons]
    show (if p = g m then b (g m) - z m else b p) - _ = _
    by_cases h : p = g m
    · rw [if_pos h, if_pos h, ← h]; omega
    · rw [if_neg h, if_neg h]; omega
def parCnt (g : Str → Str) (ms : List Str) (q : Str) (ys : List Str) : Int := (ms.map fun m => if q = g m then (ys.count m : Int) else 0).sum
theorem parCnt_nil {g : Str → Str} {q : Str} : ∀ ms : List Str, parCnt g ms q [] = 0
  | [] => rfl
  | m :: ms => by
    have ih := parCnt_nil (g := g) (q := q) ms
    unfold parCnt at ih ⊢
    rw [List.map_cons, List.sum_cons, ih]
    split <;> simp
theorem parCnt_app {g : Str → Str} {q : Str} {ys zs : List Str} : ∀ ms : List Str, parCnt g ms q (ys ++ zs) = parCnt g ms q ys + parCnt g ms q zs
  | [] => rfl
  | m :: ms => by
    have ih := parCnt_app (g := g) (q := q) (ys := ys) (zs := zs) ms
    unfold parCnt at ih ⊢
    rw [List.map_cons, List.sum_cons, List.map_cons, List.sum_cons, List.map_cons, List.sum_cons, ih, List.count_append]
    split
    · push_cast; omega
    · omega
theorem parCnt_out {g : Str → Str} {q x : Str} : ∀ {ms : List Str}, x ∉ ms → parCnt g ms q [x] = 0
  | [], _ => rfl
  | m :: ms, h => by
    have ih := parCnt_out (g := g) (q := q) (x := x) (ms := ms) fun z => h (List.mem_cons_of_mem _ z)
    unfold parCnt at ih ⊢
    rw [List.map_cons, List.sum_cons, ih]
    have hx : ¬ x = m := fun z => h (z ▸ List.mem_cons_self ..)
    rw [List.count_cons, List.count_nil]
    simp [hx]
theorem parCnt_one {g : Str → Str} {q x : Str} : ∀ {ms : List Str}, ms.Nodup → x ∈ ms → parCnt g ms q [x] = if q = g x then 1 else 0
  | [], _, h => by cases h
  | m :: ms, hn, h => by
    obtain ⟨h1, h2⟩ := List.nodup_cons.mp hn
    by_cases e : x = m
    · subst e
      have ih := parCnt_out (g := g) (q := q) h1
      unfold parCnt at ih ⊢
      rw [List.map_cons, List.sum_cons, ih, List.count_cons, List.count_nil]
      split <;> simp
    · have ih := parCnt_one (g := g) (q := q) h2 ((List.mem_cons.mp h).resolve_left e)
      unfold parCnt at ih ⊢
      rw [List.map_cons, List.sum_cons, ih, List.count_cons, List.count_nil]
      simp [e]
theorem path_cnt {lg : List (Str × Str)} {ms : List Str} (hn : ms.Nodup) (hm : ∀ x a, aGet lg x = some a → x ∈ ms) {q : Str} {x : Str} {ys : List Str} (h : IsPath (aGet lg) x ys) :
    parCnt (fun m => (aGet lg m).getD "") ms q ys = (if q = "" then 1 else (ys.count q : Int)) - (if x = q then 1 else 0) := by
  induction h with
  | root =>
    rw [parCnt_nil]
    by_cases h : q = ""
    · subst h; simp
    · rw [if_neg h, if_neg fun z => h z.symm]; simp
  | @step x a ys ne e t ih =>
    rw [parCnt_app, ih, parCnt_one hn (hm x a e)]
    have ga : (aGet lg x).getD "" = a := by rw [e]; rfl
    rw [ga, List.count_append]
    by_cases h : q = ""
    · subst h
      rw [if_pos rfl, if_pos rfl, if_neg ne]
      by_cases h2 : a = ""
      · subst h2; simp
      · rw [if_neg h2, if_neg fun z => h2 z.symm]; omega
    · rw [if_neg h, if_neg h]
      have e1 : (([x] : List Str).count q : Int) = if x = q then 1 else 0 := by
        rw [List.count_cons, List.count_nil]
        by_cases h3 : x = q
        · subst h3; simp
        · simp [h3]
      push_cast
      rw [e1]
      by_cases h2 : a = q
      · subst h2; simp
      · rw [if_neg h2, if_neg fun z => h2 z.symm]; omega
/-- how often the goals' paths hold m -/
noncomputable def cntS (lg : List (Str × Str)) (xs : List Str) (m : Str) : Nat := (xs.map fun x => (pth (aGet lg) x).count m).sum
theorem cntS_cons {lg : List (Str × Str)} {xs : List Str} {x m : Str} : cntS lg (x :: xs) m = (pth (aGet lg) x).count m + cntS lg xs m := by
  unfold cntS
  rw [List.map_cons, List.sum_cons]
theorem cntS_snoc {lg : List (Str × Str)} {xs : List Str} {x m : Str} : cntS lg (xs ++ [x]) m = cntS lg xs m + (pth (aGet lg) x).count m := by
  unfold cntS
  rw [List.map_append, List.sum_append]
  simp
theorem sum_split {g : Str → Str} {q : Str} {f h : Str → Nat} : ∀ ms : List Str, (ms.map fun m => if q = g m then ((f m + h m : Nat) : Int) else 0).sum = (ms.map fun m => if q = g m then (f m : Int) else 0).sum + (ms.map fun m => if q = g m then (h m : Int) else 0).sum
  | [] => rfl
  | m :: ms => by
    rw [List.map_cons, List.sum_cons, List.map_cons, List.sum_cons, List.map_cons, List.sum_cons, sum_split ms]
    split
    · push_cast; omega
    · omega
theorem resid_count {lg : List (Str × Str)} (t : Tree lg) {ms : List Str} (hn : ms.Nodup) (hm : ∀ x a, aGet lg x = some a → x ∈ ms) {q : Str} : ∀ {xs : List Str}, (∀ x ∈ xs, x ∈ places lg) →
    (if q = "" then (xs.length : Int) else (cntS lg xs q : Int)) - (ms.map fun m => if q = (aGet lg m).getD "" then (cntS lg xs m : Int) else 0).sum = (xs.count q : Int)
  | [], _ => by
    have e : (ms.map fun m => if q = (aGet lg m).getD "" then (cntS lg [] m : Int) else 0).sum = 0 := by
      have := parCnt_nil (g := fun m => (aGet lg m).getD "") (q := q) ms
      unfold parCnt at this
      refine Eq.trans ?_ this
      rfl
    rw [e]
    split <;> rfl
  | x :: xs, hx => by
    have ih := resid_count t hn hm (q := q) (xs := xs) fun y hy => hx y (List.mem_cons_of_mem _ hy)
    have hp := path_cnt (q := q) hn hm (t.nfp (hx x (List.mem_cons_self ..))).1
    have e : (ms.map fun m => if q = (aGet lg m).getD "" then (cntS lg (x :: xs) m : Int) else 0).sum = parCnt (fun m => (aGet lg m).getD "") ms q (pth (aGet lg) x) + (ms.map fun m => if q = (aGet lg m).getD "" then (cntS lg xs m : Int) else 0).sum := by
      unfold parCnt
      rw [← sum_split (g := fun m => (aGet lg m).getD "") (f := fun m => (pth (aGet lg) x).count m) (h := fun m => cntS lg xs m)]
      congr 1
    rw [e, hp, List.count_cons]
    have e2 : (cntS lg (x :: xs) q : Int) = ((pth (aGet lg) x).count q : Int) + (cntS lg xs q : Int) := by rw [cntS_cons]; push_cast; rfl
    rw [e2]
    by_cases h : q = ""
    · subst h
      rw [if_pos rfl] at ih ⊢
      by_cases h2 : x = ""
      · subst h2; simp at ih ⊢; omega
      · simp [h2] at ih ⊢; omega
    · rw [if_neg h] at ih ⊢
      rw [if_neg h]
      by_cases h2 : x = q
      · subst h2; simp at ih ⊢; omega
      · simp [h2] at ih ⊢; omega
/-- what need_feasible and residents_of find -/
theorem resid_goals {lg : List (Str × Str)} (t : Tree lg) {xs : List Str} (hx : ∀ x ∈ xs, x ∈ places lg) {z : Str → Int} (hz : ∀ m ∈ lg.map (·.1), z m = (cntS lg xs m : Int)) {q : Str} (hq : q ∈ places lg) : residOf (nf lg) xs.length z q = (xs.count q : Int) := by
  unfold residOf
  rw [resid_sum, nf_keys, nf_fun]
  have hn : (srt (lg.map (·.1))).Nodup := (srt_perm _).nodup_iff.mpr t.nd
  have hm : ∀ x a, aGet lg x = some a → x ∈ srt (lg.map (·.1)) := fun x a e => (srt_perm _).mem_iff.mpr (List.mem_map.mpr ⟨_, aGet_mem e, rfl⟩)
  rw [← resid_count t hn hm hx]
  have e1 : (if q = "" then (xs.length : Int) else z q) = if q = "" then (xs.length : Int) else (cntS lg xs q : Int) := by
    by_cases h : q = ""
    · rw [if_pos h, if_pos h]
    · rw [if_neg h, if_neg h, hz q ((mem_places.mp hq).resolve_left h)]
  rw [e1]
  congr 2
  refine List.map_congr_left fun m hm2 => ?_
  rw [hz m ((srt_perm _).mem_iff.mp hm2)]
end K31
set_option Elab.async false
set_option linter.all false
set_option maxRecDepth 100000
set_option maxHeartbeats 4000000
namespace K31
open PySem PySem.Spec PyProof.Rows L2 He
open C8 (Cal Met Mak pe_c pe_mk pe_mt pe_mt0 pe_gc)
section
variable {P : Program} {w : World} {K : PySem.W.Frag} {mg : Str → Option Value} {base : Heap}
/-! ### a dict of pairs -/
theorem merge_kS {β : Type} {f : β → V} : ∀ {l acc : List (Str × β)}, ((acc ++ l).map (·.1)).Nodup → mergeK (kS f acc) (kS f l) = kS f (acc ++ l)
  | [], acc, _ => by rw [List.append_nil]; rfl
  | e :: l, acc, h => by
    show mergeK (putK (kS f acc) (Sum.inr e.1) (f e.2)) (kS f l) = _
    have hk : e.1 ∉ acc.map (·.1) := fun z => by
      rw [List.map_append, List.map_cons] at h
      exact (List.nodup_append.mp h).2.2 _ z _ (List.mem_cons_self ..) rfl
    rw [putK_kS, aPut_new hk, merge_kS (l := l) (acc := acc ++ [(e.1, e.2)]) (by rw [List.append_assoc]; exact h), List.append_assoc]
    rfl
theorem paired_at {α β : Type} {R : α → β → Prop} : ∀ {xs : List α} {ys : List β}, xs.length = ys.length → (∀ (i : Nat) (x : α) (y : β), xs[i]? = some x → ys[i]? = some y → R x y) → Paired R xs ys
  | [], [], _, _ => .nil
  | x :: xs, y :: ys, hl, h => .cons (h 0 x y rfl rfl) (paired_at (by simpa using hl) fun i a b ha hb => h (i + 1) a b (by simpa using ha) (by simpa using hb))
  | [], _ :: _, hl, _ => by simp at hl
  | _ :: _, [], hl, _ => by simp at hl
/-- [(key, value) for x in ..] -/
theorem k_lcP {J : It} {n : Nat} {G : Hp → Prop} {te : TE} {σ : L2.St} {H : Hp} {j : Nat} {Qd : Addr → Hp → Prop} {β : Type} [Inhabited β] {data : List β} {toV : β → V} (w : Walk J data.length G (YFn fun i => toV (data.getD i default))) (hG : ∀ H', Sub H H' → G H') (key : β → Str) (val : β → V) (hn : data.length ≤ 1000)
    (he : ∀ (i : Nat) (d : β) (H' : Hp), data[i]? = some d → Sub H H' → EvP te ((wipe σ [j]).set j (some (toV d))) H' fun y H4 => ∃ t, y = .ref t ∧ H4 t = some (.tup [.str (key d), val d]))
    (hd : ∀ (D : Addr) (ps : List Addr) (H' : Hp), H D = none → Sub H H' → H' D = some (.lst (ps.map V.ref)) → ps.length = data.length → (∀ (i : Nat) (p : Addr) (d : β), ps[i]? = some p → data[i]? = some d → H' p = some (.tup [.str (key d), val d])) → Qd D H') : ∀ D, H D = none →
    ∃ W : Nat → Nat → Hp → Prop, (∃ m, W 0 m (upd H D (.lst []))) ∧ ∀ i m H, W i m H →
      (J.stop i H ∧ Qd D H) ∨ (J.go i H ∧ ∃ Nx : Hp → Prop, (∀ H', Nx H' → ∃ m', m' < m ∧ W (i + 1) m' H') ∧ ∀ x H', J.yld i H x H' → gName j x (wipe σ [j]) H' fun σ2 H2 => wipe σ2 [j] = wipe σ [j] ∧ tYes σ2 H2 fun b H3 =>
        if b = true then te σ2 H3 fun y H4 => ∃ acc, H4 D = some (.lst acc) ∧ acc.length < sizeLine ∧ Nx (upd H4 D (.lst (acc ++ [y]))) else Nx H3) := by
  refine k_lc w hG (fun _ => true) (fun i ys H' => ∃ ps : List Addr, ys = ps.map V.ref ∧ ps.length = i ∧ ∀ (m : Nat) (p : Addr) (d : β), ps[m]? = some p → data[m]? = some d → H' p = some (.tup [.str (key d), val d])) (fun i ys Ha Hb sn ⟨ps, h1, h2, h3⟩ => ⟨ps, h1, h2, fun m p d e1 e2 => sn _ _ (h3 m p d e1 e2) (fun xs z => by cases z)⟩) ⟨[], rfl, rfl, fun m p d e => by simp at e⟩ hn (fun _ _ _ _ => evB_yes) (fun i ys H' hi _ s ⟨ps, h1, h2, h3⟩ Q q => ?_) (fun _ _ _ _ z => nomatch z) (fun D ys H' h1 h2 h3 ⟨ps, h4, h5, h6⟩ => ?_)
  · have e : data[i]? = some data[i] := List.getElem?_eq_getElem hi
    have gd : data.getD i default = data[i] := by rw [List.getD_eq_getElem?_getD, e]; rfl
    show te ((wipe σ [j]).set j (some (toV (data.getD i default)))) H' Q
    rw [gd]
    refine he i _ H' e s Q fun y H4 s4 ⟨t, ey, et⟩ => q y H4 s4 ⟨ps ++ [t], by rw [List.map_append, ← h1, ey]; rfl, by rw [List.length_append, h2]; rfl, fun m p d e1 e2 => ?_⟩
    by_cases hm : m < ps.length
    · rw [List.getElem?_append_left hm] at e1
      exact s4 _ _ (h3 m p d e1 e2)
    · rw [List.getElem?_append_right (by omega)] at e1
      obtain ⟨z, ez⟩ := List.getElem?_eq_some_iff.mp e1
      simp at z ez
      have : m = i := by omega
      subst this
      rw [e] at e2
      cases e2
      rw [← ez]
      exact et
  · subst h4
    exact hd D ps H' h1 h2 h3 h5 h6

/-! ### _law_rooms -/
def sp_law_rooms (K : PySem.W.Frag) : Sp := fun vs H Q _ => ∃ (p a : Addr) (lg : List (Str × Str)) (gs : List Str), vs = [.ref p, .ref a] ∧ FDf V.str H p lg ∧ Tree lg ∧ SqL K H a (gs.map V.str) ∧ ∀ (q : Addr) (H' : Hp), H q = none → Sub H H' → FDf V.int H' q (roomL lg fun x => gs.count x) → Q (.ref q) H'
abbrev n_law_rooms : List Str := ["_law_parents_here", "_law_spots_here", "_law_spot"]
theorem sc_law_rooms : FnScope n_law_rooms ["_law_parents_here", "_law_spots_here"] (defScope s_law_rooms) := ⟨rfl, rfl, rfl, by decide +kernel, rfl, by decide +kernel, by decide +kernel⟩
theorem ok_law_rooms (T : Txt K mg) : Cal P w K mg base 2 "_law_rooms" (sp_law_rooms K) [] := by
  refine cal_of T.f__law_rooms T.g__law_rooms sc_law_rooms (fun vs H Q E h => ?_) (fun _ _ _ _ _ _ us hl => match us, hl with | [_, _], _ => rfl) (fun f cdv A outer s H vs Q E hr h => ?_)
  · obtain ⟨p, a, lg, gs, rfl, _⟩ := h
    rfl
  · obtain ⟨p, a, lg, gs, rfl, hp, tg, ha, k⟩ := h
    have h13 := places_len tg
    refine ⟨_, (pss_one (ps_ret (pe_freeze (pe_callTy (call_dictP rfl) rfl T.n_dict (by decide +kernel) (pa_cons (pe_lc (own := [("_law_spot", 2)]) (g := (gName 2)) (tt := tYes) (te := (tTup (tCons (tVar 2) (tCons (tBM K "list" (rCntS K) (tVar 1) (tCons (tVar 2) tNil)) tNil)))) rfl sc_law_rooms.nd (pi_list (pe_c (ok_law_places T) hr (by decide) rfl (pa_cons (pv 0) pa_nil))) (blkOk_by (N := n_law_rooms) (sc := defScope s_law_rooms) (by decide +kernel)) (fun _ _ _ _ _ => (pg_name (i := 2) sc_law_rooms.nd rfl (.inl rfl))) (fun _ _ _ _ _ => pts_nil) (fun _ _ _ _ _ => (pe_tup (pa_cons (pv 2) (pa_cons (pe_bm PySem.F.plainAttrs_list PySem.F.slot_list_count PySem.F.type_list_count mt_countS (pv 1) (pa_cons (pv 2) pa_nil)) pa_nil))))) pa_nil))))), ?_⟩
    refine ⟨_, rfl, p, lg, rfl, hp, by have := tg.hi; omega, fun ys L H1 hpm hs n1 s1 e1 => ?_⟩
    have hys := srt_is hpm hs
    subst hys
    refine ⟨L, rfl, ⟨_, SqL.of e1⟩, ?_⟩
    refine k_lcP (n := 0) (data := places lg) (toV := V.str) (walkL (K := K) (a := L) (data := places lg) (f := V.str)) (fun H' s => s.l (SqL.of e1)) id (fun x => .int (gs.count x : Nat)) (by omega) (fun i x H' _ s' Q' q' => ?_) (fun D ps H2 n2 s2 e2 hl hps => ?_)
    · refine ⟨_, rfl, _, rfl, .inl ⟨rfl, _, (s1.trans s').l ha⟩, _, rfl, a, gs, x, rfl, rfl, (s1.trans s').l ha, sz (by simp), fun t nt => ?_⟩
      exact q' _ _ (Sub.new nt) ⟨t, rfl, upd_same⟩
    refine ⟨D, ps, kS V.int (roomL lg fun x => gs.count x), rfl, SqL.of e2, paired_at (by unfold kS roomL fnL; rw [List.length_map, List.length_map]; exact hl) (fun i t kv h1 h2 => ?_), fun q n3 => ?_⟩
    · unfold kS roomL fnL at h2
      rw [List.map_map, List.getElem?_map] at h2
      obtain ⟨x, hx, rfl⟩ := Option.map_eq_some_iff.mp h2
      exact SqT.of (hps i t x h1 hx)
    have hm : mergeK [] (kS V.int (roomL lg fun x => gs.count x)) = kS V.int (roomL lg fun x => gs.count x) := merge_kS (acc := []) (by rw [List.nil_append, roomL, fnL_keys]; exact places_nd tg)
    rw [hm]
    have s12 := s1.trans s2
    have nq := s12.fresh n3
    refine ⟨q, _, rfl, upd_same, True.intro, fun o => k q _ nq ((s12.trans (Sub.new n3)).mut nq) ⟨o, upd_same⟩⟩
end
end K31
set_option Elab.async false
set_option linter.all false
set_option maxRecDepth 100000
set_option maxHeartbeats 4000000
/-! The words that the law makes. -/
namespace K31
open PySem PySem.Spec PyProof.Rows L2 He
/-- a word that, cut at 7 with one more letter, is a name -/
structure WordOk (z : Str) : Prop where
  nm : NameOk z
  sel : z ≠ "sel"
def sgn (c : Nat) : Str := ⟨#[c]⟩
theorem abc_sub : ∀ c ∈ ("abcdefghijklmnopq" : Str).cps.toList, c ∈ abc.cps.toList := by decide
theorem str_xt {a b : Str} (h : a.cps.toList = b.cps.toList) : a = b := by
  cases a; cases b; simp at h; rw [h]
theorem app_list (a b : Str) : (a ++ b).cps.toList = a.cps.toList ++ b.cps.toList := by
  show (a.cps ++ b.cps).toList = _
  simp
theorem app_len (a b : Str) : (a ++ b).length = a.length + b.length := by
  show (a.cps ++ b.cps).size = _
  simp; rfl
theorem cut_list (z : Str) : (cutS z none (some 7)).cps.toList = z.cps.toList.take 7 := by
  unfold cutS
  show (List.take (HT.sIx z.length z.length (some 7) - HT.sIx z.length 0 none) (List.drop (HT.sIx z.length 0 none) z.cps.toList)).toArray.toList = _
  have h0 : HT.sIx z.length 0 none = 0 := by
    unfold HT.sIx; rfl
  have h7 : HT.sIx z.length z.length (some 7) = min 7 z.length := by
    unfold HT.sIx
    simp
    first | omega | skip
  rw [h0, h7]
  have hz : z.cps.toList.length = z.length := by rw [Array.length_toList]; rfl
  show List.take (min 7 z.length - 0) z.cps.toList = _
  rw [Nat.sub_zero]
  by_cases h : 7 ≤ z.length
  · rw [Nat.min_eq_left h]
  · rw [Nat.min_eq_right (by omega), List.take_of_length_le (by omega), List.take_of_length_le (by omega)]
theorem cut_len (z : Str) : (cutS z none (some 7)).length = min 7 z.length := by
  show (cutS z none (some 7)).cps.size = _
  rw [← Array.length_toList, cut_list, List.length_take, Array.length_toList]; rfl
theorem cand_ok {z : Str} (h : WordOk z) {c : Nat} (hc : c ∈ ("abcdefghijklmnopq" : Str).cps.toList) : NameOk (cutS z none (some 7) ++ sgn c) := by
  have hl : (cutS z none (some 7) ++ sgn c).length = min 7 z.length + 1 := by rw [app_len, cut_len]; rfl
  refine ⟨by omega, by omega, fun e => ?_, fun d hd => ?_⟩
  · have e2 := congrArg (fun s : Str => s.cps.toList) e
    simp only [app_list, cut_list] at e2
    have e3 : ("self" : Str).cps.toList = [115, 101, 108] ++ [102] := by decide
    rw [e3] at e2
    have e4 := (List.append_inj' e2 rfl).1
    have hz : z.cps.toList.length = z.length := by rw [Array.length_toList]; rfl
    have hz3 : z.length = 3 := by
      have := congrArg List.length e4
      rw [List.length_take, hz] at this
      simp at this
      omega
    rw [List.take_of_length_le (by rw [hz]; omega)] at e4
    refine h.sel (str_xt ?_)
    rw [e4]; decide
  · rw [app_list, List.mem_append, cut_list] at hd
    rcases hd with hd | hd
    · exact h.nm.abc d (List.mem_of_mem_take hd)
    · have : d = c := by simpa [sgn] using hd
      subst this
      exact abc_sub d hc
theorem ndsub_len {α : Type} [DecidableEq α] : ∀ {l m : List α}, l.Nodup → (∀ x ∈ l, x ∈ m) → l.length ≤ m.length
  | [], _, _, _ => Nat.zero_le _
  | a :: l, m, h, hs => by
    have hm := hs a (List.mem_cons_self ..)
    have hn := List.nodup_cons.mp h
    have ih := ndsub_len (l := l) (m := m.erase a) hn.2 fun x hx => (List.mem_erase_of_ne fun e => hn.1 (by rw [← e]; exact hx)).mpr (hs x (List.mem_cons_of_mem _ hx))
    rw [List.length_erase_of_mem hm] at ih
    have : 0 < m.length := List.length_pos_of_mem hm
    show l.length + 1 ≤ m.length
    omega
/-- the candidates -/
def cands (z : Str) : List Str := z :: ("abcdefghijklmnopq" : Str).cps.toList.map fun c => cutS z none (some 7) ++ sgn c
theorem cands_ok {z : Str} (h : WordOk z) : ∀ x ∈ cands z, NameOk x := fun x hx => by
  rcases List.mem_cons.mp hx with rfl | hx
  · exact h.nm
  · obtain ⟨c, hc, rfl⟩ := List.mem_map.mp hx
    exact cand_ok h hc
theorem map_nd {α β : Type} {f : α → β} (hf : ∀ a b, f a = f b → a = b) : ∀ {l : List α}, l.Nodup → (l.map f).Nodup
  | [], _ => List.Pairwise.nil
  | a :: l, h => by
    have hn := List.nodup_cons.mp h
    rw [List.map_cons, List.nodup_cons]
    refine ⟨fun z => ?_, map_nd hf hn.2⟩
    obtain ⟨b, hb, e⟩ := List.mem_map.mp z
    exact hn.1 (by rw [← hf b a e]; exact hb)
theorem cands_free {z : Str} {found : List Str} (hl : found.length ≤ 10) : ∃ x r, (cands z).filter (fun y => !decide (y ∈ found)) = x :: r ∧ x ∈ cands z ∧ x ∉ found := by
  cases e : (cands z).filter (fun y => !decide (y ∈ found)) with
  | cons x r =>
    have hx : x ∈ (cands z).filter (fun y => !decide (y ∈ found)) := by rw [e]; exact List.mem_cons_self ..
    have := List.mem_filter.mp hx
    exact ⟨x, r, rfl, this.1, by simpa using this.2⟩
  | nil =>
    exfalso
    have hall : ∀ y ∈ cands z, y ∈ found := fun y hy => by
      have := (List.filter_eq_nil_iff.mp e) y hy
      simpa using this
    have nd : (("abcdefghijklmnopq" : Str).cps.toList.map fun c => cutS z none (some 7) ++ sgn c).Nodup := map_nd (fun a b h => by
      have h2 := congrArg (fun s : Str => s.cps.toList) h
      simp only [app_list] at h2
      have h3 := (List.append_inj' h2 rfl).2
      simpa [sgn] using h3) (by decide)
    have := ndsub_len nd fun x hx => hall x (List.mem_cons_of_mem _ hx)
    rw [List.length_map] at this
    have h17 : ("abcdefghijklmnopq" : Str).cps.toList.length = 17 := by decide
    omega
def owns : List Str := ["new", "old", "pay", "size", "must", "never", "stay", "undo", "start", "free", "users", "steps"]
theorem owns_ok : ∀ x ∈ owns, WordOk x := by
  have h : ∀ x ∈ owns, 1 ≤ x.length ∧ x.length ≤ 8 ∧ x ≠ "self" ∧ x ≠ "sel" ∧ ∀ c ∈ x.cps.toList, c ∈ abc.cps.toList := by decide
  exact fun x hx => ⟨⟨(h x hx).1, (h x hx).2.1, (h x hx).2.2.1, (h x hx).2.2.2.2⟩, (h x hx).2.2.2.1⟩
/-- a joined word of signs -/
theorem glued_list : ∀ (cs : List Nat), (PySem.Txt.join "" (cs.map sgn)).cps.toList = cs := by
  intro cs
  show (Builtin.Str.glued "" (cs.map sgn)).cps.toList = cs
  rw [StrLaws.glued_eq_join]
  induction cs with
  | nil => rfl
  | cons c cs ih =>
    cases cs with
    | nil => rfl
    | cons d cs =>
      show (sgn c ++ "" ++ Str.join "" (sgn d :: cs.map sgn)).cps.toList = _
      rw [app_list, app_list]
      have ih : (Str.join "" (sgn d :: cs.map sgn)).cps.toList = d :: cs := ih
      rw [ih]
      rfl
theorem joined_ok {cs : List Nat} (hl : cs.length = 1 ∨ cs.length = 2 ∨ cs.length = 8) (hc : ∀ c ∈ cs, c ∈ ("abcdefghijklmnop" : Str).cps.toList) : WordOk (PySem.Txt.join "" (cs.map sgn)) := by
  have hz : (PySem.Txt.join "" (cs.map sgn)).length = cs.length := by
    show (PySem.Txt.join "" (cs.map sgn)).cps.size = _
    rw [← Array.length_toList, glued_list]
  have hsub : ∀ c ∈ ("abcdefghijklmnop" : Str).cps.toList, c ∈ abc.cps.toList := by decide
  refine ⟨⟨by omega, by omega, fun e => ?_, fun c h => ?_⟩, fun e => ?_⟩
  · have := hz
    rw [e] at this
    have h4 : ("self" : Str).length = 4 := by decide
    omega
  · rw [glued_list] at h
    exact hsub c (hc c h)
  · have := hz
    rw [e] at this
    have h4 : ("sel" : Str).length = 3 := by decide
    omega
end K31
set_option Elab.async false
set_option linter.all false
set_option maxRecDepth 100000
set_option maxHeartbeats 4000000
namespace K31
open PySem PySem.Spec PyProof.Rows L2 He
open C8 (Cal Met Mak pe_c pe_mk pe_mt pe_mt0 pe_gc)
section
variable {P : Program} {w : World} {K : PySem.W.Frag} {mg : Str → Option Value} {base : Heap}
/-- a comprehension whose items are drawn -/
theorem k_lcE {J : It} {n : Nat} {G : Hp → Prop} {f : Nat → V} {te : TE} {σ : L2.St} {H : Hp} {j : Nat} {d l sm : Addr} {T : Nat} {Qd : Addr → Hp → Prop} (c : Nat) (w : Walk J n G (YFn f)) (hG : ∀ H', SubE d l H H' → G H') (hD : DrawAt H d l sm T) (PV : V → Prop) (hn : n ≤ 1000)
    (he : ∀ (i : Nat) (H' : Hp), i < n → SubE d l H H' → DrawAt H' d l sm (T + i * c) → ∀ Q : VK, (∀ y H4, SubE d l H' H4 → DrawAt H4 d l sm (T + (i + 1) * c) → PV y → Q y H4) → te ((wipe σ [j]).set j (some (f i))) H' Q)
    (hd : ∀ (D : Addr) (ys : List V) (H' : Hp), H D = none → SubE d l H H' → DrawAt H' d l sm (T + n * c) → H' D = some (.lst ys) → ys.length = n → (∀ y ∈ ys, PV y) → Qd D H') : ∀ D, H D = none →
    ∃ W : Nat → Nat → Hp → Prop, (∃ m, W 0 m (upd H D (.lst []))) ∧ ∀ i m H, W i m H →
      (J.stop i H ∧ Qd D H) ∨ (J.go i H ∧ ∃ Nx : Hp → Prop, (∀ H', Nx H' → ∃ m', m' < m ∧ W (i + 1) m' H') ∧ ∀ x H', J.yld i H x H' → gName j x (wipe σ [j]) H' fun σ2 H2 => wipe σ2 [j] = wipe σ [j] ∧ tYes σ2 H2 fun b H3 =>
        if b = true then te σ2 H3 fun y H4 => ∃ acc, H4 D = some (.lst acc) ∧ acc.length < sizeLine ∧ Nx (upd H4 D (.lst (acc ++ [y]))) else Nx H3) := fun D nD => by
  obtain ⟨D1, D2⟩ := hD.new nD
  have D3 := hD.sm_ne nD
  refine lc_it w (fun i H' => ∃ ys : List V, H' D = some (.lst ys) ∧ ys.length = i ∧ SubE d l H H' ∧ DrawAt H' d l sm (T + i * c) ∧ ∀ y ∈ ys, PV y) ⟨[], upd_same, rfl, (Sub.new nD).e, (hD.sub (Sub.new nD)).le (by omega), fun _ z => by simp at z⟩ (fun i H' _ ⟨_, _, _, s, _⟩ => hG H' s) ?_ (fun H' ⟨ys, e, hl, s, hD', hp⟩ => hd D ys H' nD s hD' e hl hp)
  rintro i x H1 H' hi ⟨ys, e, hl, s, hD1, hp⟩ ⟨rfl, rfl⟩
  refine ⟨wipe_self, ?_⟩
  refine he i _ hi s hD1 _ fun y H4 s4 hD4 py => ?_
  have e4 := s4 _ _ D1 D2 e
  refine ⟨ys, e4, szl (by omega), ys ++ [y], upd_same, by rw [List.length_append, hl]; rfl, fun a o n1 n2 q => ?_, hD4.put D1 D2 D3, fun z hz => ?_⟩
  · rw [upd_ne (ne_of_none q nD)]
    exact s4 _ _ n1 n2 (s _ _ n1 n2 q)
  · rcases List.mem_append.mp hz with hz | hz
    · exact hp z hz
    · rw [List.mem_singleton.mp hz]; exact py
theorem signs_of {L : List Nat} : ∀ {ys : List V}, (∀ y ∈ ys, ∃ c, c ∈ L ∧ y = V.str (sgn c)) → ∃ cs : List Nat, ys = (cs.map sgn).map V.str ∧ cs.length = ys.length ∧ ∀ c ∈ cs, c ∈ L
  | [], _ => ⟨[], rfl, rfl, fun _ h => by simp at h⟩
  | y :: ys, h => by
    obtain ⟨c, hc, e⟩ := h y (List.mem_cons_self ..)
    obtain ⟨cs, h1, h2, h3⟩ := signs_of fun z hz => h z (List.mem_cons_of_mem _ hz)
    refine ⟨c :: cs, by rw [h1, e]; rfl, by rw [List.length_cons, h2]; rfl, fun x hx => ?_⟩
    rcases List.mem_cons.mp hx with rfl | hx
    · exact hc
    · exact h3 x hx
theorem flat_strs (l : List Str) : (l.map V.str).all flatV = true := by
  rw [List.all_eq_true]
  intro x hx
  obtain ⟨z, _, rfl⟩ := List.mem_map.mp hx
  rfl
/-! ### _law_names -/
def sp_law_names (K : PySem.W.Frag) : Sp := fun vs H Q _ => ∃ (d l sm : Addr) (T n : Nat), vs = [.ref d, .int (n : Int)] ∧ DrawAt H d l sm T ∧ T ≤ 800000000 ∧ n ≤ 6 ∧
  ∀ (q : Addr) (H' : Hp) (ns : List Str), H q = none → SubE d l H H' → DrawAt H' d l sm (T + n * 12) → H' q = some (.lst (ns.map V.str)) → ns.length = n → ns.Nodup → (∀ x ∈ ns, NameOk x) → Q (.ref q) H'
abbrev n_law_names : List Str := ["_law_draw", "_law_many", "_law_own", "_law_found_here", "_law_turn", "_law_word", "_law_at", "_law_one", "_law_sign"]
theorem sc_law_names : FnScope n_law_names ["_law_draw", "_law_many"] (defScope s_law_names) := ⟨rfl, rfl, rfl, by decide +kernel, rfl, by decide +kernel, by decide +kernel⟩
theorem ok_law_names (T : Txt K mg) : Cal P w K mg base 3 "_law_names" (sp_law_names K) [] := by
  refine cal_of T.f__law_names T.g__law_names sc_law_names (fun vs H Q E h => ?_) (fun _ _ _ _ _ _ us hl => match us, hl with | [_, _], _ => rfl) (fun f cdv A outer s H vs Q E hr h => ?_)
  · obtain ⟨d, l, sm, t, n, rfl, _⟩ := h
    rfl
  · obtain ⟨d, l, sm, T0, n, rfl, hD, hT, hn, k⟩ := h
    refine ⟨_, (pss_cons (ps_asg (pe_tup (pa_cons (pe_lst (pa_cons pe_str (pa_cons pe_str (pa_cons pe_str (pa_cons pe_str (pa_cons pe_str (pa_cons pe_str (pa_cons pe_str (pa_cons pe_str (pa_cons pe_str (pa_cons pe_str (pa_cons pe_str (pa_cons pe_str pa_nil))))))))))))) (pa_cons (pe_lst pa_nil) pa_nil))) (pg_tup (n := 2) rfl (pgs_cons (pg_name (i := 2) sc_law_names.nd rfl (.inl rfl)) (pgs_cons (pg_name (i := 3) sc_law_names.nd rfl (.inr rfl)) pgs_nil))))
  (pss_cons (ps_for PassesOwn.never rfl (pi_range1 rfl T.n_range (pa_cons (pv 1) pa_nil)) (pg_name (i := 4) sc_law_names.nd rfl (.inl rfl))
  (pss_cons (ps_set (i := 5) sc_law_names.nd rfl (.inr rfl) (pe_c (ok_law_pick T) hr (by decide) rfl (pa_cons (pv 0) (pa_cons (pv 2) pa_nil))))
  (pss_cons (ps_if (pt_cmpR op_eq (pe_c (ok_law_take T) hr (by decide) rfl (pa_cons (pv 0) (pa_cons pe_int pa_nil))) pe_int (nomark _)) (pss_one (ps_set (i := 5) sc_law_names.nd rfl (.inr rfl) (pe_join pe_str (pe_lc (own := [("_law_at", 6)]) (g := (gName 6)) (tt := tYes) (te := (tCall (sp_law_pick K) [] E0 (tCons (tVar 0) (tCons (tC (.str "abcdefghijklmnop")) tNil)))) rfl sc_law_names.nd (pi_range1 rfl T.n_range (pa_cons (pe_c (ok_law_pick T) hr (by decide) rfl (pa_cons (pv 0) (pa_cons (pe_lst (pa_cons pe_int (pa_cons pe_int (pa_cons pe_int (pa_cons pe_int pa_nil))))) pa_nil))) pa_nil)) (blkOk_by (N := n_law_names) (sc := defScope s_law_names) (by decide +kernel)) (fun _ _ _ _ _ => (pg_name (i := 6) sc_law_names.nd rfl (.inl rfl))) (fun _ _ _ _ _ => pts_nil) (fun _ _ _ _ _ => (pe_c (ok_law_pick T) hr (by decide) rfl (pa_cons (pv 0) (pa_cons pe_str pa_nil)))))))) pss_nil)
  (pss_one (ps_expr (pe_bm PySem.F.plainAttrs_list PySem.F.slot_list_append PySem.F.type_list_append mt_append (pv 3) (pa_cons (pe_ix ix_list (pe_lc (own := [("_law_one", 7)]) (g := (gName 7)) (tt := (tTest (tOp (rIn K true) (tVar 7) (tVar 3)))) (te := (tVar 7)) rfl sc_law_names.nd (pi_list (pe_op op_cat (pe_lst (pa_cons (pv 5) pa_nil)) (pe_lc (own := [("_law_sign", 8)]) (g := (gName 8)) (tt := tYes) (te := (tOp rAddT (tSl rSlS (tVar 5) tNoPart (tPart (tC (.int 7)))) (tVar 8))) rfl sc_law_names.nd (pi_str pe_str) (blkOk_by (N := n_law_names) (sc := defScope s_law_names) (by decide +kernel)) (fun _ _ _ _ _ => (pg_name (i := 8) sc_law_names.nd rfl (.inl rfl))) (fun _ _ _ _ _ => pts_nil) (fun _ _ _ _ _ => (pe_op op_addS (pe_slice sl_str (pv 5) po_none (po_some pe_int)) (pv 8)))))) (blkOk_by (N := n_law_names) (sc := defScope s_law_names) (by decide +kernel)) (fun _ _ _ _ _ => (pg_name (i := 7) sc_law_names.nd rfl (.inl rfl))) (fun _ _ _ _ _ => pts_one (pt_cmpR op_notIn_seq (pv 7) (pv 3) rfl)) (fun _ _ _ _ _ => (pv 7))) pe_int (fun _ _ => rfl)) pa_nil)))))))
  (pss_one (ps_ret (pv 3))))), ?_⟩
    refine ⟨by decide, fun O nO => ?_⟩
    have sO : Sub H (upd H O (.lst (owns.map V.str))) := Sub.new nO
    refine ⟨by decide, fun F nF => ?_⟩
    have sF : Sub (upd H O (.lst (owns.map V.str))) (upd (upd H O (.lst (owns.map V.str))) F (.lst [])) := Sub.new nF
    refine ⟨sz (by simp), fun t nt => ?_⟩
    have st : Sub _ (upd (upd (upd H O (.lst (owns.map V.str))) F (.lst [])) t (.tup [.ref O, .ref F])) := Sub.new nt
    have eO : (upd (upd (upd H O (.lst (owns.map V.str))) F (.lst [])) t (.tup [.ref O, .ref F])) O = some (.lst (owns.map V.str)) := st _ _ (sF _ _ upd_same)
    have eF : (upd (upd (upd H O (.lst (owns.map V.str))) F (.lst [])) t (.tup [.ref O, .ref F])) F = some (.lst []) := st F (.lst []) upd_same
    have s0 : Sub H (upd (upd (upd H O (.lst (owns.map V.str))) F (.lst [])) t (.tup [.ref O, .ref F])) := (sO.trans sF).trans st
    have nF' : H F = none := sO.fresh nF
    have OF : O ≠ F := ne_of_none upd_same nF
    obtain ⟨O1, O2⟩ := hD.new nO
    obtain ⟨F1, F2⟩ := hD.new nF'
    have F3 := hD.sm_ne nF'
    refine ⟨t, _, rfl, SqT.of upd_same, rfl, ?_⟩
    show gCons _ _ _ _ (upd (upd (upd H O (.lst (owns.map V.str))) F (.lst [])) t (.tup [.ref O, .ref F])) _
    generalize upd (upd (upd H O (.lst (owns.map V.str))) F (.lst [])) t (.tup [.ref O, .ref F]) = H1 at eO eF s0 ⊢
    clear st sF sO nt nF
    refine ⟨_, _, rfl, _, _, rfl, rfl, ?_⟩
    refine ⟨_, rfl, (n : Int), rfl, by omega, by omega, ?_⟩
    refine for_it walk_range (fun i σ H' => ∃ (x4 x5 : Option V) (found : List Str), σ = [some (.ref d), some (.int (n : Int)), some (.ref O), some (.ref F), x4, x5, none, none, none] ∧ SubE d l H H' ∧ DrawAt H' d l sm (T0 + i * 12) ∧ H' O = some (.lst (owns.map V.str)) ∧ H' F = some (.lst (found.map V.str)) ∧ found.length = i ∧ found.Nodup ∧ ∀ x ∈ found, NameOk x)
      ⟨none, none, [], rfl, s0.e, (hD.sub s0).le (by omega), eO, eF, rfl, List.Pairwise.nil, fun _ h => by simp at h⟩ (fun _ _ _ _ _ => True.intro) ?_ (fun σ H' ⟨x4, x5, found, h1, h2, h3, h4, h5, h6, h7, h8⟩ => ?_)
    · rintro i x σ H2 H3 hi ⟨x4, x5, found, rfl, s2, hD2, eO2, eF2, hfl, hnd, hok⟩ ⟨rfl, rfl⟩
      have hi6 : i < 6 := by
        have : i < (n : Int).toNat := hi
        omega
      refine ⟨_, rfl, _, rfl, ?_⟩
      refine ⟨d, l, sm, T0 + i * 12, .ref O, owns.map V.str, rfl, hD2, by omega, .inl ⟨O, rfl, .inl (SqL.of (by rw [msk_at O1 O2]; exact eO2))⟩, by decide, by decide, fun y H3 hy s3 hD3 => ?_⟩
      obtain ⟨wd, hw, rfl⟩ := List.mem_map.mp hy
      have hwd := owns_ok wd hw
      have s23 := s2.trans s3
      have eO3 := s3 _ _ O1 O2 eO2
      have eF3 := s3 _ _ F1 F2 eF2
      refine ⟨_, rfl, d, l, sm, _, 2, rfl, hD3, by omega, by decide, by decide, fun r H4 hr4 s4 hD4 => ?_⟩
      have s24 := s23.trans s4
      have eO4 := s4 _ _ O1 O2 eO3
      have eF4 := s4 _ _ F1 F2 eF3
      clear s2 s3 s4 s23 eO2 eF2 eO3 eF3 hD2 hD3 hy hw
      refine ⟨rfl, _, rfl, ?_⟩
      refine rd_ite (fun _ => ?gj) (fun _ => ?gk)
      case' gj =>
        refine ⟨⟨_, rfl⟩, ?_⟩
        refine ⟨_, rfl, sz (by simp), fun L nL => ?_⟩
        have sL : Sub H4 (upd H4 L (.lst [.int 1, .int 1, .int 2, .int 8])) := Sub.new nL
        obtain ⟨L1, L2'⟩ := hD4.new nL
        refine ⟨d, l, sm, _, .ref L, [.int 1, .int 1, .int 2, .int 8], rfl, hD4.sub sL, by omega, .inl ⟨L, rfl, .inl (SqL.of (by rw [msk_at L1 L2']; exact upd_same))⟩, by decide, by decide, fun y H5 hy s5 hD5 => ?_⟩
        have s25 := (s24.trans sL.e).trans s5
        have eO5 := s5 _ _ O1 O2 (sL _ _ eO4)
        have eF5 := s5 _ _ F1 F2 (sL _ _ eF4)
        have hz : ∃ m : Nat, y = .int (m : Int) ∧ (m = 1 ∨ m = 2 ∨ m = 8) := by
          rcases List.mem_cons.mp hy with rfl | hy
          · exact ⟨1, rfl, .inl rfl⟩
          rcases List.mem_cons.mp hy with rfl | hy
          · exact ⟨1, rfl, .inl rfl⟩
          rcases List.mem_cons.mp hy with rfl | hy
          · exact ⟨2, rfl, .inr (.inl rfl)⟩
          · rw [List.mem_singleton.mp hy]; exact ⟨8, rfl, .inr (.inr rfl)⟩
        obtain ⟨m, rfl, hm⟩ := hz
        clear hy
        have em : (m : Int).toNat = m := by omega
        refine ⟨(m : Int), rfl, by omega, by omega, ?_⟩
        rw [em]
        refine k_lcE 1 walk_range (fun _ _ => True.intro) hD5 (fun y => ∃ c, c ∈ ("abcdefghijklmnop" : Str).cps.toList ∧ y = V.str (sgn c)) (by omega) (fun i2 H6 hi2 s6 hD6 Q' q' => ?_) (fun D ys H6 n6 s6 hD6 e6 hl6 hp6 => ?_)
        · refine ⟨_, rfl, d, l, sm, _, .str "abcdefghijklmnop", ("abcdefghijklmnop" : Str).cps.toList.map fun c => V.str ⟨#[c]⟩, rfl, hD6, by omega, .inr ⟨_, rfl, by decide, rfl⟩, by decide, by decide, fun y H7 hy s7 hD7 => ?_⟩
          refine q' _ _ s7 (hD7.le (by omega)) ?_
          obtain ⟨c, hc, rfl⟩ := List.mem_map.mp hy
          exact ⟨c, hc, rfl⟩
        obtain ⟨cs, rfl, hcl, hcs⟩ := signs_of hp6
        have hcl2 : cs.length = m := by rw [hcl]; exact hl6
        refine ⟨_, D, cs.map sgn, rfl, rfl, .inl (SqL.of e6), ?_, ?_⟩
        · rw [List.map_map, List.length_map]
          have : ∀ l : List Nat, (l.map (Str.length ∘ sgn)).sum = l.length := fun l => by
            induction l with
            | nil => rfl
            | cons a l ih => rw [List.map_cons, List.sum_cons, ih, List.length_cons]; show 1 + l.length = _; omega
          rw [this]
          have h0 : ("" : Str).length = 0 := by decide
          rw [h0]
          omega
        have hwd2 := joined_ok (cs := cs) (by omega) hcs
        have s26 := s25.trans s6
        have eO6 := s6 _ _ O1 O2 eO5
        have eF6 := s6 _ _ F1 F2 eF5
        have hD7 := hD6.le (T' := T0 + i * 12 + 11) (by omega)
        clear s25 s24 eO5 eF5 eO4 eF4 hD4 hD5 hD6 s6 s5 sL hp6 hwd
        generalize PySem.Txt.join "" (cs.map sgn) = wz at hwd2 ⊢
      case' gk =>
        have hwd2 := hwd
        have s26 := s24
        have eO6 := eO4
        have eF6 := eF4
        have hD7 := hD4.le (T' := T0 + i * 12 + 11) (by omega)
        clear s24 eO4 eF4 hD4 hwd
        generalize wd = wz at hwd2 ⊢
        generalize H4 = H6 at s26 eO6 eF6 hD7 ⊢
      all_goals
        refine ⟨_, rfl, .inl ⟨rfl, _, SqL.of eF6⟩, ?_⟩
        refine ⟨_, rfl, sz (by simp), fun W nW => ?_⟩
        have sW : Sub H6 (upd H6 W (.lst [.str wz])) := Sub.new nW
        refine ⟨_, rfl, ?_⟩
        refine k_lcD (data := ("abcdefghijklmnopq" : Str).cps.toList) (toV := fun c => V.str ⟨#[c]⟩) walkS (fun _ _ => True.intro) (fun _ => true) (fun c => .str (cutS wz none (some 7) ++ sgn c)) (by decide) (fun _ _ _ _ _ => evB_yes) (fun i3 c H8 _ _ s8 Q' q' => ?_) (fun B H8 n8 s8 e8 => ?_)
        · have h8 := hwd2.nm.hi
          have h7 := cut_len wz
          exact ⟨_, rfl, _, rfl, wz, rfl, sz (by omega), _, rfl, _, _, rfl, rfl, sz (by show _ + 1 ≤ _; omega), q' _ _ (Sub.refl _) rfl⟩
        rw [List.filter_eq_self.mpr fun _ _ => rfl] at e8
        have ec : [V.str wz] ++ ("abcdefghijklmnopq" : Str).cps.toList.map (fun c => V.str (cutS wz none (some 7) ++ sgn c)) = (cands wz).map V.str := by
          unfold cands
          rw [List.map_cons, List.map_map]
          rfl
        refine ⟨W, B, _, _, rfl, rfl, s8 _ _ upd_same, e8, sz (by simp; decide), fun C nC => ?_⟩
        have sC : Sub H8 (upd H8 C (.lst ((cands wz).map V.str))) := Sub.new nC
        have eC : (upd H8 C (.lst ((cands wz).map V.str))) C = some (.lst ((cands wz).map V.str)) := upd_same
        rw [ec]
        have s68 := (sW.trans s8).trans sC
        generalize upd H8 C (.lst ((cands wz).map V.str)) = H9 at s68 eC ⊢
        have eF9 := s68 _ _ eF6
        refine ⟨C, rfl, ⟨_, SqL.of eC⟩, ?_⟩
        refine k_lcD (toV := V.str) (walkL (K := K) (a := C) (data := cands wz) (f := V.str)) (fun H' s => s.l (SqL.of eC)) (fun y => !decide (y ∈ found)) V.str (by unfold cands; simp; decide) (fun i4 y H10 _ s10 Q' q' => ?_) (fun i4 y H10 _ _ s10 Q' q' => ⟨_, rfl, q' _ _ (Sub.refl _) rfl⟩) (fun M H10 n10 s10 e10 => ?_)
        · refine ⟨_, rfl, _, rfl, F, found.map V.str, rfl, .inl (SqL.of (s10 _ _ eF9)), rfl, flat_strs _, _, rfl, ?_⟩
          have := q' _ (Sub.refl _)
          rwa [← inV_str] at this
        obtain ⟨x, rs, ex, hx1, hx2⟩ := cands_free (z := wz) (found := found) (by omega)
        rw [ex] at e10
        refine ⟨M, _, ((0 : Nat) : Int), .str x, rfl, rfl, SqL.of e10, by rw [atI_n]; rfl, ?_⟩
        have eF10 := s10 _ _ eF9
        refine ⟨F, found.map V.str, .str x, rfl, rfl, eF10, szl (by rw [List.length_map]; omega), ?_⟩
        have sA := s68.trans s10
        refine ⟨_, _, found ++ [x], rfl, fun a o n1 n2 e => ?_, ((hD7.sub sA).put F1 F2 F3).le (by omega), ?_, ?_, by rw [List.length_append, hfl]; rfl, ?_, ?_⟩
        · rw [upd_ne (ne_of_none e nF')]
          exact sA _ _ (s26 _ _ n1 n2 e)
        · rw [upd_ne OF]
          exact sA _ _ eO6
        · rw [upd_same, List.map_append]
          rfl
        · rw [List.nodup_append]
          refine ⟨hnd, by simp, fun a ha b hb e => ?_⟩
          rw [List.mem_singleton.mp hb] at e
          exact hx2 (by rw [← e]; exact ha)
        · intro y hy
          rcases List.mem_append.mp hy with hy | hy
          · exact hok y hy
          · rw [List.mem_singleton.mp hy]
            exact cands_ok hwd2 x hx1
    · subst h1
      have e : (n : Int).toNat = n := by omega
      rw [e] at h3 h6
      exact ⟨_, rfl, k F H' found nF' h2 h3 h5 h6 h7 h8⟩
end
end K31
set_option Elab.async false
set_option linter.all false
set_option maxRecDepth 100000
set_option maxHeartbeats 4000000
namespace K31
open PySem PySem.Spec PyProof.Rows L2 He
open C8 (Cal Met Mak pe_c pe_mk pe_mt pe_mt0 pe_gc)
theorem IsPath.up {g g' : Str → Option Str} {x : Str} {ys : List Str} (h : IsPath g x ys) (k : ∀ x a, g x = some a → g' x = some a) : IsPath g' x ys := by
  induction h with
  | root => exact .root
  | step n e _ ih => exact .step n (k _ _ e) ih
/-- the tree as it grows -/
structure Grown (ns : List Str) (i : Nat) (lg : List (Str × Str)) : Prop where
  keys : lg.map (·.1) = ns.take i
  path : ∀ x a, aGet lg x = some a → ∃ ys, IsPath (aGet lg) a ys ∧ ys.length + 1 ≤ i
theorem aGet_snoc {β : Type} {l : List (Str × β)} {k : Str} {v : β} (h : k ∉ l.map (·.1)) (j : Str) : aGet (l ++ [(k, v)]) j = if j = k then some v else aGet l j := by
  rw [← aPut_new h, aGet_put]
theorem Grown.more {ns : List Str} {i : Nat} {lg : List (Str × Str)} (g : Grown ns i lg) (nd : ns.Nodup) (ok : ∀ x ∈ ns, NameOk x) (hi : i < ns.length) {z : Str} (hz : z = "" ∨ z ∈ ns.take i) : Grown ns (i + 1) (lg ++ [(ns[i], z)]) ∧ ns[i] ∉ lg.map (·.1) := by
  have e := take_get hi
  have hn : ns[i] ∉ lg.map (·.1) := by
    rw [g.keys]
    intro h
    have h2 : (ns.take (i + 1)).Nodup := nd.sublist (List.take_sublist _ _)
    rw [e, List.nodup_append] at h2
    exact h2.2.2 _ h _ (List.mem_singleton.mpr rfl) rfl
  have up : ∀ x a, aGet lg x = some a → aGet (lg ++ [(ns[i], z)]) x = some a := fun x a h => by
    rw [aGet_snoc hn, if_neg]
    · exact h
    · intro ex
      subst ex
      rw [aGet_none hn] at h
      cases h
  refine ⟨⟨by rw [List.map_append, g.keys, e]; rfl, fun x a h => ?_⟩, hn⟩
  rw [aGet_snoc hn] at h
  by_cases hx : x = ns[i]
  · rw [if_pos hx] at h
    have h := Option.some.inj h
    subst h
    rcases hz with rfl | hz
    · exact ⟨[], .root, by simp⟩
    · rw [← g.keys] at hz
      obtain ⟨b, hb⟩ := aGet_some hz
      obtain ⟨ys, h1, h2⟩ := g.path _ _ hb
      refine ⟨ys ++ [z], .step (ok z ?_).ne (up _ _ hb) (h1.up up), by rw [List.length_append]; simp; omega⟩
      rw [g.keys] at hz
      exact List.mem_of_mem_take hz
  · rw [if_neg hx] at h
    obtain ⟨ys, h1, h2⟩ := g.path _ _ h
    exact ⟨ys, h1.up up, by omega⟩
theorem Grown.tree {ns : List Str} {lg : List (Str × Str)} (g : Grown ns ns.length lg) (nd : ns.Nodup) (ok : ∀ x ∈ ns, NameOk x) (h1 : 1 ≤ ns.length) (h2 : ns.length ≤ 12) : Tree lg := by
  have e := g.keys
  rw [List.take_length] at e
  have el : lg.length = ns.length := by rw [← e, List.length_map]
  exact ⟨by rw [e]; exact nd, by rw [e]; exact ok, by omega, by omega, fun x a h => by obtain ⟨ys, p, q⟩ := g.path x a h; exact ⟨ys, p, by omega⟩⟩
theorem pick4 {a b c e : Str} {w : Nat} (h : w < 4) : ∃ z, atI [V.str a, V.str b, V.str c, V.str e] ((w : Nat) : Int) = some (.str z) ∧ (z = a ∨ z = b ∨ z = c ∨ z = e) := by
  rw [atI_n]
  match w, h with
  | 0, _ => exact ⟨a, rfl, .inl rfl⟩
  | 1, _ => exact ⟨b, rfl, .inr (.inl rfl)⟩
  | 2, _ => exact ⟨c, rfl, .inr (.inr (.inl rfl))⟩
  | 3, _ => exact ⟨e, rfl, .inr (.inr (.inr rfl))⟩
section
variable {P : Program} {w : World} {K : PySem.W.Frag} {mg : Str → Option Value} {base : Heap}
/-! ### _law_parents -/
def sp_law_parents (K : PySem.W.Frag) : Sp := fun vs H Q _ => ∃ (d l sm : Addr) (T : Nat) (a : Addr) (ns : List Str), vs = [.ref d, .ref a] ∧ DrawAt H d l sm T ∧ T ≤ 800000000 ∧ SqL K (msk d l H) a (ns.map V.str) ∧ 1 ≤ ns.length ∧ ns.length ≤ 6 ∧ ns.Nodup ∧ (∀ x ∈ ns, NameOk x) ∧
  ∀ (q : Addr) (H' : Hp) (lg : List (Str × Str)), H q = none → SubE d l H H' → DrawAt H' d l sm (T + 13) → FDf V.str H' q lg → Tree lg → lg.map (·.1) = ns → Q (.ref q) H'
abbrev n_law_parents : List Str := ["_law_draw", "_law_names_here", "_law_found_here", "_law_way", "_law_at", "_law_name", "_law_above"]
theorem sc_law_parents : FnScope n_law_parents ["_law_draw", "_law_names_here"] (defScope s_law_parents) := ⟨rfl, rfl, rfl, by decide +kernel, rfl, by decide +kernel, by decide +kernel⟩
theorem ok_law_parents (T : Txt K mg) : Cal P w K mg base 2 "_law_parents" (sp_law_parents K) [] := by
  refine cal_of T.f__law_parents T.g__law_parents sc_law_parents (fun vs H Q E h => ?_) (fun _ _ _ _ _ _ us hl => match us, hl with | [_, _], _ => rfl) (fun f cdv A outer s H vs Q E hr h => ?_)
  · obtain ⟨d, l, sm, t, a, ns, rfl, _⟩ := h
    rfl
  · obtain ⟨d, l, sm, T0, a, ns, rfl, hD, hT, ha, hn1, hn6, hnd, hok, k⟩ := h
    have hu := hu_of hr
    refine ⟨_, (pss_cons (ps_par (i := 2) (j := 3) rfl sc_law_parents.nd rfl rfl (by decide) rfl rfl (pa_cons pe_dnewK (pa_cons (pe_c (ok_law_take T) hr (by decide) rfl (pa_cons (pv 0) (pa_cons pe_int pa_nil))) pa_nil)) (by rfl))
  (pss_cons (ps_for PassesOwn.never rfl (pi_enum rfl T.n_enumerate (pa_cons (pv 1) pa_nil)) (pg_tup (n := 2) rfl (pgs_cons (pg_name (i := 4) sc_law_parents.nd rfl (.inl rfl)) (pgs_cons (pg_name (i := 5) sc_law_parents.nd rfl (.inl rfl)) pgs_nil)))
  (pss_cons (ps_set (i := 6) sc_law_parents.nd rfl (.inl rfl) (pe_ix ix_list (pe_lst (pa_cons (pe_ifExp (pt_cmpR op_gt (pv 4) pe_int (nomark _)) (pe_ix ix_list (pv 1) (pe_op op_sub (pv 4) pe_int) (fun _ _ => rfl)) pe_str) (pa_cons pe_str (pa_cons pe_str (pa_cons pe_str pa_nil))))) (pv 3) (fun _ _ => rfl)))
  (pss_cons (ps_if (PW.pt (pw_and (pt_cmpR op_gt (pv 3) pe_int (nomark _)) (pw_and (pt_cmpR op_gt (pv 4) pe_int (nomark _)) (pw_and1 (pt_cmpR op_gt (pe_c (ok_law_take T) hr (by decide) rfl (pa_cons (pv 0) (pa_cons pe_int pa_nil))) pe_int (nomark _)))))) (pss_one (ps_set (i := 6) sc_law_parents.nd rfl (.inl rfl) (pe_ix ix_list (pv 1) (pe_c (ok_law_take T) hr (by decide) rfl (pa_cons (pv 0) (pa_cons (pv 4) pa_nil))) (fun _ _ => rfl)))) pss_nil)
  (pss_one (ps_dput hu (pv 2) (pv 5) (pv 6) rfl)))))
  (pss_one (ps_ret (pe_freeze (pv 2)))))), ?_⟩
    refine fun F nF => ?_
    have sF : Sub H (upd H F (.dK [])) := Sub.new nF
    obtain ⟨F1, F2⟩ := hD.new nF
    have F3 := hD.sm_ne nF
    refine ⟨_, rfl, d, l, sm, T0, 4, rfl, hD.sub sF, by omega, by decide, by decide, fun way H1 hway s1 hD1 => ?_⟩
    have eF1 := s1 _ _ F1 F2 (upd_same (H := H) (a := F) (o := .dK []))
    have s01 := (sF.e (d := d) (l := l)).trans s1
    refine ⟨_, _, rfl, ?_⟩
    refine ⟨_, rfl, a, _, rfl, msk_sub.l (s01.m.l ha), ?_⟩
    refine for_it (walkE (data := ns) (f := V.str)) (fun i σ H' => ∃ (x4 x5 x6 : Option V) (lg : List (Str × Str)), σ = [some (.ref d), some (.ref a), some (.ref F), some (.int (way : Int)), x4, x5, x6] ∧ SubE d l H H' ∧ DrawAt H' d l sm (T0 + 1 + i * 2) ∧ H' F = some (.dK (kS V.str lg)) ∧ Grown ns i lg)
      ⟨none, none, none, [], rfl, s01, hD1, eF1, ⟨rfl, fun _ _ h => by cases h⟩⟩ (fun i σ H' _ ⟨_, _, _, _, _, s, _⟩ => msk_sub.l (s.m.l ha)) ?_ (fun σ H' ⟨x4, x5, x6, lg, h1, h2, h3, h4, h5⟩ => ?_)
    · rintro i x σ H2 H3 hi ⟨x4, x5, x6, lg, rfl, s2, hD2, eF2, hg⟩ ⟨t, x0, y0, rfl, nt, rfl, hx0, hy0⟩
      obtain rfl := (Option.some.inj hx0).symm
      have hy := get_map hi hy0
      subst hy
      have st := Sub.new (o := .tup [.int (i : Nat), .str ns[i]]) nt
      refine gPair upd_same ?_
      have s3 := s2.trans (st.e (d := d) (l := l))
      have hD3 := hD2.sub st
      have eF3 := st _ _ eF2
      generalize upd H2 t (.tup [.int (i : Nat), .str ns[i]]) = H3 at s3 hD3 eF3 ⊢
      clear st nt eF2 hD2 s2 hx0 hy0
      have ha3 : SqL K H3 a (ns.map V.str) := msk_sub.l (s3.m.l ha)
      have fin : ∀ (z' : Str) (H' : Hp), (z' = "" ∨ z' ∈ ns.take i) → SubE d l H H' → DrawAt H' d l sm (T0 + 1 + (i + 1) * 2) → H' F = some (.dK (kS V.str lg)) → ∃ Hn, DPut H' F (.str ns[i]) (.str z') Hn ∧ ∃ lg', SubE d l H Hn ∧ DrawAt Hn d l sm (T0 + 1 + (i + 1) * 2) ∧ Hn F = some (.dK (kS V.str lg')) ∧ Grown ns (i + 1) lg' := fun z' H' hz' s' hD' e' => by
        obtain ⟨g1, g2⟩ := hg.more hnd hok hi hz'
        have hll : lg.length = i := by
          have := congrArg List.length hg.keys
          rw [List.length_map, List.length_take] at this
          omega
        refine ⟨_, dput_d (f := V.str) e' ns[i] z' (by omega), lg ++ [(ns[i], z')], fun b o n1 n2 e => ?_, hD'.put F1 F2 F3, ?_, g1⟩
        · rw [upd_ne (ne_of_none e nF)]
          exact s' _ _ n1 n2 e
        · rw [upd_same, aPut_new g2]
      refine ⟨_, rfl, _, _, rfl, rfl, _, rfl, ?_⟩
      refine rd_ite (fun hpos => ?ga) (fun _ => ?gb)
      case' ga =>
        have hpos : 0 < i := by
          have := of_decide_eq_true hpos
          omega
        have hi1 : i - 1 < ns.length := by omega
        refine ⟨_, rfl, _, rfl, _, _, rfl, rfl, a, ns.map V.str, ((i - 1 : Nat) : Int), .str ns[i - 1], rfl, ?_, ha3, ?_, ?_⟩
        · show V.int ((i : Int) - 1) = _
          congr 1; omega
        · rw [atI_n, List.getElem?_map, List.getElem?_eq_getElem hi1]; rfl
        obtain ⟨z, hz1, hz2⟩ := pick4 (a := ns[i - 1]) (b := "") (c := "") (e := "") (show way < 4 by omega)
        have hz : z = "" ∨ z ∈ ns.take i := by
          rcases hz2 with rfl | rfl | rfl | rfl
          · exact .inr (by
              have e := take_get (i := i - 1) hi1
              rw [show i - 1 + 1 = i by omega] at e
              rw [e]
              exact List.mem_append_right _ (List.mem_singleton.mpr rfl))
          · exact .inl rfl
          · exact .inl rfl
          · exact .inl rfl
        refine ⟨sz (by simp), fun L nL => ?_⟩
        refine ⟨_, rfl, L, _, _, .str z, rfl, rfl, SqL.of upd_same, hz1, ?_⟩
        have sL : Sub H3 (upd H3 L (.lst [.str ns[i - 1], .str "", .str "", .str ""])) := Sub.new nL
        have s4 := s3.trans (sL.e (d := d) (l := l))
        have hD4 := hD3.sub sL
        have eF4 := sL _ _ eF3
        generalize upd H3 L (.lst [.str ns[i - 1], .str "", .str "", .str ""]) = H4 at s4 hD4 eF4 ⊢
        clear sL nL s3 hD3 eF3 ha3 hz1 hz2
        clear hi1 hpos
      case' gb =>
        obtain ⟨z, hz1, hz2⟩ := pick4 (a := "") (b := "") (c := "") (e := "") (show way < 4 by omega)
        have hz : z = "" ∨ z ∈ ns.take i := by
          rcases hz2 with rfl | rfl | rfl | rfl
          · exact .inl rfl
          · exact .inl rfl
          · exact .inl rfl
          · exact .inl rfl
        refine ⟨sz (by simp), fun L nL => ?_⟩
        refine ⟨_, rfl, L, _, _, .str z, rfl, rfl, SqL.of upd_same, hz1, ?_⟩
        have sL : Sub H3 (upd H3 L (.lst [.str "", .str "", .str "", .str ""])) := Sub.new nL
        have s4 := s3.trans (sL.e (d := d) (l := l))
        have hD4 := hD3.sub sL
        have eF4 := sL _ _ eF3
        generalize upd H3 L (.lst [.str "", .str "", .str "", .str ""]) = H4 at s4 hD4 eF4 ⊢
        clear sL nL s3 hD3 eF3 ha3 hz1 hz2
      all_goals
        refine ⟨_, rfl, _, _, rfl, rfl, _, rfl, ?_⟩
        refine rd_ite (fun _ => ?_) (fun _ => ?_)
        · refine ⟨_, rfl, _, _, rfl, rfl, _, rfl, ?_⟩
          refine rd_ite (fun hpos => ?_) (fun _ => ?_)
          · have hpos : 0 < i := by
              have := of_decide_eq_true hpos
              omega
            refine ⟨_, rfl, d, l, sm, _, 4, rfl, hD4, by omega, by decide, by decide, fun r H5 hr5 s5 hD5 => ?_⟩
            have eF5 := s5 _ _ F1 F2 eF4
            have s45 := s4.trans s5
            refine ⟨_, _, rfl, rfl, _, rfl, ?_⟩
            refine rd_ite (fun _ => ?_) (fun _ => ?_)
            · refine ⟨_, rfl, _, rfl, _, rfl, d, l, sm, _, (i : Int), rfl, hD5, by omega, by omega, by omega, fun r2 H6 hr6 s6 hD6 => ?_⟩
              have s46 := s45.trans s6
              have hr7 : r2 < i := by omega
              have hr8 : r2 < ns.length := by omega
              refine ⟨a, ns.map V.str, ((r2 : Nat) : Int), .str ns[r2], rfl, rfl, msk_sub.l (s46.m.l ha), by rw [atI_n, List.getElem?_map, List.getElem?_eq_getElem hr8]; rfl, ?_⟩
              obtain ⟨Hn, p, lg', i1, i2, i3, i4⟩ := fin ns[r2] H6 (.inr (List.mem_take_iff_getElem.mpr ⟨r2, by omega, rfl⟩)) s46 (hD6.le (by omega)) (s6 _ _ F1 F2 eF5)
              exact ⟨_, rfl, _, rfl, _, rfl, F, Hn, rfl, p, _, _, _, lg', rfl, i1, i2, i3, i4⟩
            · obtain ⟨Hn, p, lg', i1, i2, i3, i4⟩ := fin z H5 hz s45 (hD5.le (by omega)) eF5
              exact ⟨_, rfl, _, rfl, _, rfl, F, Hn, rfl, p, _, _, _, lg', rfl, i1, i2, i3, i4⟩
          · refine rd_ite (fun h => absurd h (by decide)) (fun _ => ?_)
            obtain ⟨Hn, p, lg', i1, i2, i3, i4⟩ := fin z H4 hz s4 (hD4.le (by omega)) eF4
            exact ⟨_, rfl, _, rfl, _, rfl, F, Hn, rfl, p, _, _, _, lg', rfl, i1, i2, i3, i4⟩
        · refine rd_ite (fun h => absurd h (by decide)) (fun _ => ?_)
          obtain ⟨Hn, p, lg', i1, i2, i3, i4⟩ := fin z H4 hz s4 (hD4.le (by omega)) eF4
          exact ⟨_, rfl, _, rfl, _, rfl, F, Hn, rfl, p, _, _, _, lg', rfl, i1, i2, i3, i4⟩
    · subst h1
      refine ⟨_, rfl, F, _, rfl, h4, True.intro, fun o => ?_⟩
      have ek := h5.keys
      rw [List.take_length] at ek
      refine k F _ lg nF (fun b o' n1 n2 e => ?_) ((h3.put F1 F2 F3).le (by omega)) ⟨o, upd_same⟩ (h5.tree hnd hok hn1 (by omega)) ek
      rw [upd_ne (ne_of_none e nF)]
      exact h2 _ _ n1 n2 e
end
end K31
set_option Elab.async false
set_option linter.all false
set_option maxRecDepth 100000
set_option maxHeartbeats 4000000
namespace K31
open PySem PySem.Spec PyProof.Rows L2 He
open C8 (Cal Met Mak pe_c pe_mk pe_mt pe_mt0 pe_gc)
theorem strs_of {L : List Str} : ∀ {ys : List V}, (∀ y ∈ ys, y ∈ L.map V.str) → ∃ cs : List Str, ys = cs.map V.str ∧ cs.length = ys.length ∧ ∀ c ∈ cs, c ∈ L
  | [], _ => ⟨[], rfl, rfl, fun _ h => by simp at h⟩
  | y :: ys, h => by
    obtain ⟨c, hc, e⟩ := List.mem_map.mp (h y (List.mem_cons_self ..))
    obtain ⟨cs, h1, h2, h3⟩ := strs_of fun z hz => h z (List.mem_cons_of_mem _ hz)
    refine ⟨c :: cs, by rw [h1, ← e]; rfl, by rw [List.length_cons, h2]; rfl, fun x hx => ?_⟩
    rcases List.mem_cons.mp hx with rfl | hx
    · exact hc
    · exact h3 x hx
section
variable {P : Program} {w : World} {K : PySem.W.Frag} {mg : Str → Option Value} {base : Heap}
/-! ### _law_spots -/
def sp_law_spots (K : PySem.W.Frag) : Sp := fun vs H Q _ => ∃ (d l sm : Addr) (T : Nat) (p : Addr) (lg : List (Str × Str)) (n : Nat), vs = [.ref d, .ref p, .int (n : Int)] ∧ DrawAt H d l sm T ∧ T ≤ 800000000 ∧ FDf V.str H p lg ∧ Tree lg ∧ n ≤ 60 ∧
  ∀ (q : Addr) (H' : Hp) (ss : List Str), H q = none → SubE d l H H' → DrawAt H' d l sm (T + 3 + n) → H' q = some (.lst (ss.map V.str)) → ss.length = n → (∀ x ∈ ss, x ∈ places lg) → Q (.ref q) H'
abbrev n_law_spots : List Str := ["_law_draw", "_law_parents_here", "_law_total", "_law_some", "_law_turn"]
theorem sc_law_spots : FnScope n_law_spots ["_law_draw", "_law_parents_here", "_law_total"] (defScope s_law_spots) := ⟨rfl, rfl, rfl, by decide +kernel, rfl, by decide +kernel, by decide +kernel⟩
theorem ok_law_spots (T : Txt K mg) : Cal P w K mg base 3 "_law_spots" (sp_law_spots K) [] := by
  refine cal_of T.f__law_spots T.g__law_spots sc_law_spots (fun vs H Q E h => ?_) (fun _ _ _ _ _ _ us hl => match us, hl with | [_, _, _], _ => rfl) (fun f cdv A outer s H vs Q E hr h => ?_)
  · obtain ⟨d, l, sm, t, p, lg, n, rfl, _⟩ := h
    rfl
  · obtain ⟨d, l, sm, T0, p, lg, n, rfl, hD, hT, hp, tg, hn, k⟩ := h
    refine ⟨_, (pss_cons (ps_set (i := 3) sc_law_spots.nd rfl (.inr rfl) (pe_c (ok_law_places T) hr (by decide) rfl (pa_cons (pv 1) pa_nil)))
  (pss_cons (ps_if (pt_cmpR op_eq (pe_c (ok_law_take T) hr (by decide) rfl (pa_cons (pv 0) (pa_cons pe_int pa_nil))) pe_int (nomark _)) (pss_one (ps_set (i := 3) sc_law_spots.nd rfl (.inr rfl) (pe_lc (own := [("_law_turn", 4)]) (g := (gName 4)) (tt := tYes) (te := (tCall (sp_law_pick K) [] E0 (tCons (tVar 0) (tCons (tVar 3) tNil)))) rfl sc_law_spots.nd (pi_range1 rfl T.n_range (pa_cons pe_int pa_nil)) (blkOk_by (N := n_law_spots) (sc := defScope s_law_spots) (by decide +kernel)) (fun _ _ _ _ _ => (pg_name (i := 4) sc_law_spots.nd rfl (.inl rfl))) (fun _ _ _ _ _ => pts_nil) (fun _ _ _ _ _ => (pe_c (ok_law_pick T) hr (by decide) rfl (pa_cons (pv 0) (pa_cons (pv 3) pa_nil))))))) pss_nil)
  (pss_one (ps_ret (pe_lc (own := [("_law_turn", 4)]) (g := (gName 4)) (tt := tYes) (te := (tCall (sp_law_pick K) [] E0 (tCons (tVar 0) (tCons (tVar 3) tNil)))) rfl sc_law_spots.nd (pi_range1 rfl T.n_range (pa_cons (pv 2) pa_nil)) (blkOk_by (N := n_law_spots) (sc := defScope s_law_spots) (by decide +kernel)) (fun _ _ _ _ _ => (pg_name (i := 4) sc_law_spots.nd rfl (.inl rfl))) (fun _ _ _ _ _ => pts_nil) (fun _ _ _ _ _ => (pe_c (ok_law_pick T) hr (by decide) rfl (pa_cons (pv 0) (pa_cons (pv 3) pa_nil))))))))), ?_⟩
    refine ⟨_, rfl, p, lg, rfl, hp, by have := tg.hi; omega, fun ys L H1 hpm hs n1 s1 e1 => ?_⟩
    have hys := srt_is hpm hs
    subst hys
    have h13 : (places lg).length ≤ 13 := places_len tg
    have e1 : H1 L = some (.lst ((places lg).map V.str)) := e1
    have hp1 : 1 ≤ (places lg).length := by unfold places; simp
    have hD1 := hD.sub s1
    obtain ⟨L1, L2'⟩ := hD.new n1
    refine ⟨_, rfl, d, l, sm, T0, 3, rfl, hD1, by omega, by decide, by decide, fun r H2 hr2 s2 hD2 => ?_⟩
    have s02 := (s1.e (d := d) (l := l)).trans s2
    have e2 := s2 _ _ L1 L2' e1
    refine ⟨rfl, _, rfl, ?_⟩
    have inL : ∀ {q : Addr} {H' : Hp} {xs : List V}, DrawAt H' d l sm T0 ∨ True → q ≠ d → q ≠ l → H' q = some (.lst xs) → SeqV K (msk d l H') (.ref q) xs := fun _ q1 q2 e => .inl ⟨_, rfl, .inl (SqL.of (by rw [msk_at q1 q2]; exact e))⟩
    have lst : ∀ (q : Addr) (H' : Hp) (some' : List Str), 1 ≤ some'.length → some'.length < 1000 → (∀ x ∈ some', x ∈ places lg) → q ≠ d → q ≠ l → SubE d l H H' → DrawAt H' d l sm (T0 + 3) → H' q = some (.lst (some'.map V.str)) →
      ∀ D, H' D = none → ∃ W : Nat → Nat → Hp → Prop, (∃ m, W 0 m (upd H' D (.lst []))) ∧ ∀ i m Hx, W i m Hx →
      ((Itr 0 (n : Int).toNat).stop i Hx ∧ Q (.ref D) Hx) ∨ ((Itr 0 (n : Int).toNat).go i Hx ∧ ∃ Nx : Hp → Prop, (∀ H', Nx H' → ∃ m', m' < m ∧ W (i + 1) m' H') ∧ ∀ x H', (Itr 0 (n : Int).toNat).yld i Hx x H' → gName 4 x (wipe [some (V.ref d), some (.ref p), some (.int (n : Int)), some (.ref q), none] [4]) H' fun σ2 H2 => wipe σ2 [4] = wipe [some (V.ref d), some (.ref p), some (.int (n : Int)), some (.ref q), none] [4] ∧ tYes σ2 H2 fun b H3 =>
        if b = true then (tCall (sp_law_pick K) [] C8.E0 (tCons (tVar 0) (tCons (tVar 3) tNil))) σ2 H3 fun y H4 => ∃ acc, H4 D = some (.lst acc) ∧ acc.length < sizeLine ∧ Nx (upd H4 D (.lst (acc ++ [y]))) else Nx H3) := fun q H' some' hs1 hs2 hsp q1 q2 s' hD' e' => by
      rw [show (n : Int).toNat = n by omega]
      refine k_lcE 1 walk_range (fun _ _ => True.intro) hD' (fun y => y ∈ some'.map V.str) (by omega) (fun i H6 hi s6 hD6 Q' q' => ?_) (fun D ys H6 n6 s6 hD6 e6 hl6 hp6 => ?_)
      · have e6 := s6 _ _ q1 q2 e'
        exact ⟨_, rfl, _, rfl, d, l, sm, _, .ref q, _, rfl, hD6, by omega, inL (.inr True.intro) q1 q2 e6, by rw [List.length_map]; omega, by rw [List.length_map]; omega, fun y H7 hy s7 hD7 => q' _ _ s7 (hD7.le (by omega)) hy⟩
      · obtain ⟨ss, rfl, h1, h2⟩ := strs_of hp6
        have nD : H D = none := by
          cases eD : H D with
          | none => rfl
          | some o =>
            exfalso
            have hDs := hD'.new n6
            have := s' _ _ hDs.1 hDs.2 eD
            rw [n6] at this
            cases this
        exact k D H6 ss nD (s'.trans s6) (hD6.le (by omega)) e6 (by rw [h1]; exact hl6) (fun x hx => hsp x (h2 x hx))
    refine rd_ite (fun _ => ?_) (fun _ => ?_)
    · refine ⟨_, rfl, by decide, by decide, ?_⟩
      refine k_lcE 1 walk_range (fun _ _ => True.intro) hD2 (fun y => y ∈ (places lg).map V.str) (by decide) (fun i H6 hi s6 hD6 Q' q' => ?_) (fun D ys H6 n6 s6 hD6 e6 hl6 hp6 => ?_)
      · have e6 := s6 _ _ L1 L2' e2
        have hi2 : i < 2 := hi
        exact ⟨_, rfl, _, rfl, d, l, sm, _, .ref L, _, rfl, hD6, by omega, inL (.inr True.intro) L1 L2' e6, by rw [List.length_map]; omega, by rw [List.length_map]; omega, fun y H7 hy s7 hD7 => q' _ _ s7 (hD7.le (by omega)) hy⟩
      · obtain ⟨ss, rfl, h1, h2⟩ := strs_of hp6
        have hl2 : ss.length = 2 := by rw [h1]; exact hl6
        obtain ⟨D1, D2⟩ := hD2.new n6
        exact ⟨_, rfl, _, rfl, by omega, by omega, lst D H6 ss (by omega) (by omega) h2 D1 D2 (s02.trans s6) (hD6.le (by show T0 + 1 + 2 * 1 ≤ _; omega)) e6⟩
    · exact ⟨_, rfl, _, rfl, by omega, by omega, lst L H2 (places lg) hp1 (by omega) (fun x h => h) L1 L2' s02 (hD2.le (by omega)) e2⟩
end
end K31
set_option Elab.async false
set_option linter.all false
set_option maxRecDepth 100000
set_option maxHeartbeats 4000000
namespace K31
open PySem PySem.Spec PyProof.Rows L2 He
open C8 (Cal Met Mak pe_c pe_mk pe_mt pe_mt0 pe_gc)
section
variable {P : Program} {w : World} {K : PySem.W.Frag} {mg : Str → Option Value} {base : Heap}
/-! ### _law_sizes -/
noncomputable def sizesL (lg : List (Str × Str)) (gs : List Str) : List (Str × Int) := fnL (srt (lg.map (·.1))).reverse fun m => (cntS lg gs m : Nat)
def sp_law_sizes (K : PySem.W.Frag) : Sp := fun vs H Q _ => ∃ (p a : Addr) (lg : List (Str × Str)) (gs : List Str), vs = [.ref p, .ref a] ∧ FDf V.str H p lg ∧ Tree lg ∧ SqL K H a (gs.map V.str) ∧ gs.length ≤ 60 ∧ (∀ x ∈ gs, x ∈ places lg) ∧
  ∀ (q : Addr) (H' : Hp), H q = none → Sub H H' → FDf V.int H' q (sizesL lg gs) → Q (.ref q) H'
abbrev n_law_sizes : List Str := ["_law_parents_here", "_law_spots_here", "_law_found_here", "_law_spot", "_law_name"]
theorem sc_law_sizes : FnScope n_law_sizes ["_law_parents_here", "_law_spots_here"] (defScope s_law_sizes) := ⟨rfl, rfl, rfl, by decide +kernel, rfl, by decide +kernel, by decide +kernel⟩
theorem ok_law_sizes (T : Txt K mg) : Cal P w K mg base 14 "_law_sizes" (sp_law_sizes K) [] := by
  refine cal_of T.f__law_sizes T.g__law_sizes sc_law_sizes (fun vs H Q E h => ?_) (fun _ _ _ _ _ _ us hl => match us, hl with | [_, _], _ => rfl) (fun f cdv A outer s H vs Q E hr h => ?_)
  · obtain ⟨p, a, lg, gs, rfl, _⟩ := h
    rfl
  · obtain ⟨p, a, lg, gs, rfl, hp, tg, ha, h60, hgs, k⟩ := h
    have hu := hu_of hr
    have h12 := tg.hi
    have hkl : (srt (lg.map (·.1))).reverse.length = lg.length := by rw [List.length_reverse, srt_len, List.length_map]
    have hnd : (srt (lg.map (·.1))).reverse.Nodup := (List.reverse_perm _).nodup_iff.mpr ((srt_perm _).nodup_iff.mpr tg.nd)
    have hmem : ∀ {x : Str}, x ∈ lg.map (·.1) → x ∈ (srt (lg.map (·.1))).reverse := fun h => List.mem_reverse.mpr ((srt_perm _).mem_iff.mpr h)
    refine ⟨_, (pss_cons (ps_set (i := 2) sc_law_sizes.nd rfl (.inl rfl) (pe_callTy (call_dictP rfl) rfl T.n_dict (by decide +kernel) (pa_cons (pe_lc (own := [("_law_name", 4)]) (g := (gName 4)) (tt := tYes) (te := (tTup (tCons (tVar 4) (tCons (tC (.int 0)) tNil)))) rfl sc_law_sizes.nd (pi_list (pe_revL (pe_callB (c_sortedD rfl) rfl T.n_sorted (by decide +kernel) (pa_cons (pv 0) pa_nil)))) (blkOk_by (N := n_law_sizes) (sc := defScope s_law_sizes) (by decide +kernel)) (fun _ _ _ _ _ => (pg_name (i := 4) sc_law_sizes.nd rfl (.inl rfl))) (fun _ _ _ _ _ => pts_nil) (fun _ _ _ _ _ => (pe_tup (pa_cons (pv 4) (pa_cons pe_int pa_nil))))) pa_nil)))
  (pss_cons (ps_for PassesOwn.never rfl (pi_list (pv 1)) (pg_name (i := 3) sc_law_sizes.nd rfl (.inl rfl))
  (pss_one (ps_for PassesOwn.never rfl (pi_tup (pe_c (ok_law_path T 12) hr (by decide) rfl (pa_cons (pv 0) (pa_cons (pv 3) pa_nil)))) (pg_name (i := 4) sc_law_sizes.nd rfl (.inl rfl))
  (pss_one (ps_dput hu (pv 2) (pv 4) (pe_op op_add (pe_dget hu (pv 2) (pv 4) (fun _ _ => rfl)) pe_int) rfl)))))
  (pss_one (ps_ret (pe_freeze (pv 2)))))), ?_⟩
    refine ⟨_, rfl, p, kS V.str lg, lg.map (·.1), rfl, hp.rd, by unfold kS; rw [List.map_map, List.map_map]; rfl, by rw [List.length_map]; omega, fun ys L hpm hs n1 => ?_⟩
    have hys := srt_is hpm hs
    subst hys
    have s1 : Sub H (upd H L (.lst ((srt (lg.map (·.1))).map V.str))) := Sub.new n1
    refine ⟨L, _, rfl, SqL.of upd_same, fun R nR => ?_⟩
    rw [← List.map_reverse]
    have s2 : Sub (upd H L (.lst ((srt (lg.map (·.1))).map V.str))) (upd (upd H L (.lst ((srt (lg.map (·.1))).map V.str))) R (.lst ((srt (lg.map (·.1))).reverse.map V.str))) := Sub.new nR
    have s02 := s1.trans s2
    have eR : (upd (upd H L (.lst ((srt (lg.map (·.1))).map V.str))) R (.lst ((srt (lg.map (·.1))).reverse.map V.str))) R = some (.lst ((srt (lg.map (·.1))).reverse.map V.str)) := upd_same
    generalize upd (upd H L (.lst ((srt (lg.map (·.1))).map V.str))) R (.lst ((srt (lg.map (·.1))).reverse.map V.str)) = H2 at s02 eR ⊢
    clear s2 nR s1 n1 hpm hs
    generalize hks : (srt (lg.map (·.1))).reverse = ks at hkl hnd hmem eR ⊢
    refine ⟨R, rfl, ⟨_, SqL.of eR⟩, ?_⟩
    refine k_lcP (n := 0) (data := ks) (toV := V.str) (walkL (K := K) (a := R) (data := ks) (f := V.str)) (fun H' s => s.l (SqL.of eR)) id (fun x => .int 0) (by omega) (fun i x H' _ s' Q' q' => ?_) (fun D ps H3 n3 s3 e3 hl hps => ?_)
    · exact ⟨_, rfl, sz (by simp), fun t nt => q' _ _ (Sub.new nt) ⟨t, rfl, upd_same⟩⟩
    refine ⟨D, ps, kS V.int (fnL ks fun _ => 0), rfl, SqL.of e3, paired_at (by unfold kS fnL; rw [List.length_map, List.length_map]; exact hl) (fun i t kv h1 h2 => ?_), fun F nF => ?_⟩
    · unfold kS fnL at h2
      rw [List.map_map, List.getElem?_map] at h2
      obtain ⟨x, hx, rfl⟩ := Option.map_eq_some_iff.mp h2
      exact SqT.of (hps i t x h1 hx)
    have hm : mergeK [] (kS V.int (fnL ks fun _ => 0)) = kS V.int (fnL ks fun _ => 0) := merge_kS (acc := []) (by rw [List.nil_append, fnL_keys]; exact hnd)
    rw [hm]
    have s03 := s02.trans s3
    have nF' : H F = none := s03.fresh nF
    refine ⟨_, rfl, a, rfl, ⟨_, (s03.trans (Sub.new nF)).l ha⟩, ?_⟩
    refine for_it (walkL (K := K) (a := a) (data := gs) (f := V.str)) (fun i σ H' => ∃ o1 o2, σ = [some (.ref p), some (.ref a), some (.ref F), o1, o2] ∧ Sub H H' ∧ H' F = some (.dK (kS V.int (fnL ks fun m => (cntS lg (gs.take i) m : Nat)))))
      ⟨_, _, rfl, s03.trans (Sub.new nF), upd_same⟩ (fun i σ H' _ ⟨_, _, _, s, _⟩ => s.l ha) ?_ (fun σ H' ⟨o1, o2, h1, h2, h3⟩ => ?_)
    · rintro i x σ H4 H5 hi ⟨o1, o2, rfl, s4, e4⟩ ⟨rfl, ex⟩
      obtain rfl : x = V.str gs[i] := Eq.trans (b := V.str (gs.getD i default)) ex (get_D (f := V.str) hi)
      have hgm : gs[i] ∈ places lg := hgs _ (List.getElem_mem hi)
      obtain ⟨q1, q2, q3⟩ := tg.nfp hgm
      refine ⟨_, rfl, _, rfl, p, lg, gs[i], _, rfl, s4.rd hp.rd, q1, q2, by decide, fun t H6 n6 s6 e6 => ?_⟩
      refine ⟨t, rfl, ⟨_, SqT.of e6⟩, ?_⟩
      have tF : t ≠ F := fun z => by rw [z, e4] at n6; cases n6
      have hin : ∀ y ∈ pth (aGet lg) gs[i], y ∈ ks := fun y hy => by
        obtain ⟨zs, hz, _⟩ := q1.suffix y hy
        cases hz with
        | root => exact absurd rfl (q3 _ hy).ne
        | step n e _ => exact hmem (List.mem_map.mpr ⟨_, aGet_mem e, rfl⟩)
      have tk := take_get hi
      generalize hpt : pth (aGet lg) gs[i] = ys at e6 hin
      refine for_it (walkT (K := K) (a := t) (data := ys) (f := V.str)) (fun j σ H' => ∃ o2, σ = [some (.ref p), some (.ref a), some (.ref F), some (.str gs[i]), o2] ∧ Sub H H' ∧ H' t = some (.tup (ys.map V.str)) ∧ H' F = some (.dK (kS V.int (fnL ks fun m => ((cntS lg (gs.take i) m + (ys.take j).count m : Nat) : Int)))))
        ⟨_, rfl, s4.trans s6, e6, s6 _ _ e4⟩ (fun j σ H' _ ⟨_, _, _, e, _⟩ => SqT.of e) ?_ (fun σ H' ⟨o2, h1, h2, h3, h4⟩ => ?_)
      · rintro j x σ H7 H8 hj ⟨o2, rfl, s7, e7, eF⟩ ⟨rfl, ex⟩
        obtain rfl : x = V.str ys[j] := Eq.trans (b := V.str (ys.getD j default)) ex (get_D (f := V.str) hj)
        have hy := hin _ (List.getElem_mem hj)
        refine ⟨_, rfl, _, rfl, F, .int _, rfl, (by have := dget_d eF ys[j]; rwa [fnL_get hy] at this), _, _, rfl, rfl, ?_⟩
        refine ⟨_, rfl, _, rfl, F, _, rfl, dput_d eF ys[j] _ (by rw [fnL, List.length_map]; omega), ?_⟩
        refine ⟨_, rfl, s7.mut nF', (upd_ne tF).trans e7, ?_⟩
        rw [upd_same, fnL_put hy, take_get hj]
        congr 3
        unfold fnL
        refine List.map_congr_left fun m _ => ?_
        show (m, _) = (m, _)
        congr 1
        show (if m = ys[j] then _ else _) = _
        dsimp only
        rw [List.count_append, List.count_cons, List.count_nil]
        by_cases hm : m = ys[j]
        · subst hm; simp; omega
        · have hm2 : ¬ ys[j] = m := fun z => hm z.symm
          simp [hm, hm2]
      · subst h1
        refine ⟨_, _, rfl, h2, ?_⟩
        rw [h4, tk, List.take_length]
        congr 3
        unfold fnL
        refine List.map_congr_left fun m _ => ?_
        dsimp only
        rw [cntS_snoc, hpt]
    · subst h1
      refine ⟨_, rfl, F, _, rfl, h3, True.intro, fun o => ?_⟩
      rw [List.take_length]
      refine k F _ nF' (h2.mut nF') ⟨o, ?_⟩
      rw [upd_same]
      unfold sizesL
      rw [hks]
end
end K31
set_option Elab.async false
set_option linter.all false
set_option maxRecDepth 100000
set_option maxHeartbeats 4000000
namespace K31
open PySem PySem.Spec PyProof.Rows L2 He
open C8 (Cal Met Mak pe_c pe_mk pe_mt pe_mt0 pe_gc)
/-! ### lists of tuples against the empty list -/
def NestOk (K : PySem.W.Frag) (H : Hp) (v : V) : Prop := ∃ a ys, v = .ref a ∧ SqT K H a ys ∧ ∀ y ∈ ys, FlatOk y
theorem dp_nest {K : PySem.W.Frag} {H : Hp} : ∀ {xs : List V}, (∀ x ∈ xs, NestOk K H x) → ∃ ds, DpAll K H xs ds ∧ PyData.canLayAll0 ds = true ∧ PyData.depthAll ds ≤ 1
  | [], _ => ⟨[], .nil, rfl, by simp [PyData.depthAll]⟩
  | x :: xs, h => by
    obtain ⟨ds, h1, h2, h3⟩ := dp_nest fun y hy => h y (List.mem_cons_of_mem _ hy)
    obtain ⟨a, ys, rfl, ha, hf⟩ := h x (List.mem_cons_self ..)
    obtain ⟨es, g1, g2, g3⟩ := dp_flat hf
    refine ⟨.tuple es :: ds, .cons (.tup ha (g1 K H)) h1, ?_, by simp [PyData.depthAll, PyData.depth, g3, h3]⟩
    show (PyData.canLayAll0 es && PyData.canLayAll0 ds) = true
    rw [g2, h2]; rfl
theorem shaped_nest {ds : List PyData} (h2 : PyData.canLayAll0 ds = true) (h3 : PyData.depthAll ds ≤ 1) : SeqAt.shaped (.list ds) = true := by
  show (PyData.canLayAll0 ds && decide (PyData.depth (.list ds) ≤ 64)) = true
  rw [h2]
  simp [PyData.depth]
  omega
theorem eq_nest {K : PySem.W.Frag} {H : Hp} {a b : Addr} {xs : List V} {Q : VK} (h : ∀ x ∈ xs, NestOk K H x) (ha : SqL K H a xs) (hb : SqL K H b []) (q : Q (.bl xs.isEmpty) H) : rEqD K (.ref a) (.ref b) H Q := by
  obtain ⟨ds, h1, h2, h3⟩ := dp_nest h
  exact eqD_nil ha h1 (shaped_nest h2 h3) hb q
theorem ne_nest {K : PySem.W.Frag} {H : Hp} {a b : Addr} {xs : List V} {Q : VK} (h : ∀ x ∈ xs, NestOk K H x) (ha : SqL K H a xs) (hb : SqL K H b []) (q : Q (.bl (!xs.isEmpty)) H) : rNeD K (.ref a) (.ref b) H Q := by
  obtain ⟨ds, h1, h2, h3⟩ := dp_nest h
  exact neD_nil ha h1 (shaped_nest h2 h3) hb q
/-! ### what the law tells -/
def ldV : Told → List V
  | .must u x => [.str "must", .int (u : Nat), .str x]
  | .never u x => [.str "never", .int (u : Nat), .str x]
  | .stay u => [.str "stay", .int (u : Nat)]
def LTold (H : Hp) (a : Addr) (t : Told) : Prop := H a = some (.tup (ldV t))
def Told.ok : Told → Prop
  | .must _ x => PyData.strOk x = true
  | .never _ x => PyData.strOk x = true
  | .stay _ => True
theorem lt_flat {t : Told} (h : t.ok) : ∀ y ∈ ldV t, FlatOk y := by
  have h1 : PyData.strOk "must" = true := by decide +kernel
  have h2 : PyData.strOk "never" = true := by decide +kernel
  have h3 : PyData.strOk "stay" = true := by decide +kernel
  intro y hy
  cases t with
  | must u x =>
    rcases List.mem_cons.mp hy with rfl | hy
    · exact .inl ⟨_, rfl, h1⟩
    rcases List.mem_cons.mp hy with rfl | hy
    · exact .inr ⟨_, rfl⟩
    · rw [List.mem_singleton.mp hy]; exact .inl ⟨_, rfl, h⟩
  | never u x =>
    rcases List.mem_cons.mp hy with rfl | hy
    · exact .inl ⟨_, rfl, h2⟩
    rcases List.mem_cons.mp hy with rfl | hy
    · exact .inr ⟨_, rfl⟩
    · rw [List.mem_singleton.mp hy]; exact .inl ⟨_, rfl, h⟩
  | stay u =>
    rcases List.mem_cons.mp hy with rfl | hy
    · exact .inl ⟨_, rfl, h3⟩
    · rw [List.mem_singleton.mp hy]; exact .inr ⟨_, rfl⟩
section
variable {P : Program} {w : World} {K : PySem.W.Frag} {mg : Str → Option Value} {base : Heap}
theorem lt_nest {H : Hp} {a : Addr} {t : Told} (h : LTold H a t) (ok : t.ok) : NestOk K H (.ref a) := ⟨a, _, rfl, SqT.of h, lt_flat ok⟩
/-! ### _law_allows -/
def sp_law_allows (K : PySem.W.Frag) : Sp := fun vs H Q _ => ∃ (a p g fl : Addr) (t : Told) (known here there : List Str), vs = [.ref a, .ref p, .ref g, .ref fl] ∧ LTold H a t ∧ SqT K H p (here.map V.str) ∧ SqT K H g (there.map V.str) ∧ SqL K H fl (known.map V.str) ∧
  here.length ≤ 12 ∧ there.length ≤ 12 ∧ (∀ x ∈ here, NameOk x) ∧ (∀ x ∈ there, NameOk x) ∧ ∀ H', Sub H H' → Q (.bl (allowsB known here there t)) H'
abbrev n_law_allows : List Str := ["_law_told", "_law_here", "_law_there", "_law_known", "_law_one"]
theorem sc_law_allows : FnScope n_law_allows ["_law_told", "_law_here", "_law_there", "_law_known"] (defScope s_law_allows) := ⟨rfl, rfl, rfl, by decide +kernel, rfl, by decide +kernel, by decide +kernel⟩
theorem ok_law_allows (T : Txt K mg) : Cal P w K mg base 1 "_law_allows" (sp_law_allows K) [] := by
  refine cal_of T.f__law_allows T.g__law_allows sc_law_allows (fun vs H Q E h => ?_) (fun _ _ _ _ _ _ us hl => match us, hl with | [_, _, _, _], _ => rfl) (fun f cdv A outer s H vs Q E hr h => ?_)
  · obtain ⟨a, p, g, fl, t, known, here, there, rfl, _⟩ := h
    rfl
  · obtain ⟨a, p, g, fl, t, known, here, there, rfl, ha, hp, hg, hf, h12, t12, nh, nt, k⟩ := h
    refine ⟨_, (pss_cons (ps_if (pt_cmpR op_eq (pe_ix ix_tup (pv 0) pe_int (fun _ _ => rfl)) pe_str (nomark _)) (pss_one (ps_ret (pe_cmpR op_in_seq (pe_ix ix_tup (pv 0) pe_int (fun _ _ => rfl)) (pv 2) rfl))) pss_nil)
  (pss_cons (ps_if (pt_cmpR op_eq (pe_ix ix_tup (pv 0) pe_int (fun _ _ => rfl)) pe_str (nomark _)) (pss_one (ps_ret (pe_cmpR op_notIn_seq (pe_ix ix_tup (pv 0) pe_int (fun _ _ => rfl)) (pv 2) rfl))) pss_nil)
  (pss_one (ps_ret (pe_cmpR (op_eqD hr.units) (pe_callB cr_sortedST rfl T.n_sorted (by decide +kernel) (pa_cons (pv 2) pa_nil)) (pe_callB cr_sortedS rfl T.n_sorted (by decide +kernel) (pa_cons (pe_lc (own := [("_law_one", 4)]) (g := (gName 4)) (tt := (tTest (tOp (rIn K false) (tVar 4) (tVar 3)))) (te := (tVar 4)) rfl sc_law_allows.nd (pi_tup (pv 1)) (blkOk_by (N := n_law_allows) (sc := defScope s_law_allows) (by decide +kernel)) (fun _ _ _ _ _ => (pg_name (i := 4) sc_law_allows.nd rfl (.inl rfl))) (fun _ _ _ _ _ => pts_one (pt_cmpR op_in_seq (pv 4) (pv 3) rfl)) (fun _ _ _ _ _ => (pv 4))) pa_nil)) (nomark _)))))), ?_⟩
    cases t with
    | must u x =>
      refine ⟨_, rfl, a, _, ((0 : Nat) : Int), _, rfl, rfl, SqT.of ha, by rw [atI_n]; rfl, rfl, _, rfl, ?_⟩
      refine rd_ite (fun _ => ?_) (fun z => absurd z (by decide))
      refine ⟨_, rfl, a, _, ((2 : Nat) : Int), .str x, rfl, rfl, SqT.of ha, by rw [atI_n]; rfl, _, rfl, g, _, rfl, .inr hg, rfl, flat_str there, ?_⟩
      show Q (.bl (inV (.str x) (there.map V.str))) H
      rw [inV_str]
      exact k H (Sub.refl _)
    | never u x =>
      refine ⟨_, rfl, a, _, ((0 : Nat) : Int), _, rfl, rfl, SqT.of ha, by rw [atI_n]; rfl, rfl, _, rfl, ?_⟩
      refine rd_ite (fun z => absurd z (by decide)) (fun _ => ?_)
      refine ⟨_, rfl, a, _, ((0 : Nat) : Int), _, rfl, rfl, SqT.of ha, by rw [atI_n]; rfl, rfl, _, rfl, ?_⟩
      refine rd_ite (fun _ => ?_) (fun z => absurd z (by decide))
      refine ⟨_, rfl, a, _, ((2 : Nat) : Int), .str x, rfl, rfl, SqT.of ha, by rw [atI_n]; rfl, _, rfl, g, _, rfl, .inr hg, rfl, flat_str there, ?_⟩
      show Q (.bl (!inV (.str x) (there.map V.str))) H
      rw [inV_str]
      exact k H (Sub.refl _)
    | stay u =>
      refine ⟨_, rfl, a, _, ((0 : Nat) : Int), _, rfl, rfl, SqT.of ha, by rw [atI_n]; rfl, rfl, _, rfl, ?_⟩
      refine rd_ite (fun z => absurd z (by decide)) (fun _ => ?_)
      refine ⟨_, rfl, a, _, ((0 : Nat) : Int), _, rfl, rfl, SqT.of ha, by rw [atI_n]; rfl, rfl, _, rfl, ?_⟩
      refine rd_ite (fun z => absurd z (by decide)) (fun _ => ?_)
      refine ⟨_, rfl, g, there, rfl, hg, by omega, fun zs p3 hpm3 hs3 n3 => ?_⟩
      have s3 : Sub H (upd H p3 (.lst (zs.map V.str))) := Sub.new n3
      have e3 : (upd H p3 (.lst (zs.map V.str))) p3 = some (.lst (zs.map V.str)) := upd_same
      generalize upd H p3 (.lst (zs.map V.str)) = H3 at s3 e3 ⊢
      refine ⟨_, rfl, p, rfl, ⟨_, s3.t hp⟩, k_lcD (walkT (data := here) (f := V.str)) (fun H' s => (s3.trans s).t hp) (fun x => decide (x ∈ known)) V.str (by omega) (fun i d H' _ s Q q => ?_) (fun i d H' _ _ s Q q => ⟨_, rfl, q _ _ (Sub.refl _) rfl⟩) (fun D H1 n1 s1 e1 => ?_)⟩
      · refine ⟨_, rfl, _, rfl, fl, known.map V.str, rfl, .inl ((s3.trans s).l hf), rfl, flat_str known, _, rfl, ?_⟩
        show Q (inV (.str d) (known.map V.str)) _
        rw [inV_str]
        exact q _ (Sub.refl _)
      · refine ⟨D, here.filter fun x => decide (x ∈ known), rfl, SqL.of e1, Nat.lt_of_le_of_lt (List.length_filter_le _ _) (by omega), fun ys p2 hpm hs n2 => ?_⟩
        have s2 : Sub H1 (upd H1 p2 (.lst (ys.map V.str))) := Sub.new n2
        have s4 := (s3.trans s1).trans s2
        refine eqD_strs (SqL.of (s2 _ _ (s1 _ _ e3))) (SqL.of upd_same) (fun x hx => (nt x (hpm3.mem_iff.mp hx)).str) (fun x hx => (nh x (List.mem_filter.mp (hpm.mem_iff.mp hx)).1).str) ?_
        have := k _ s4
        unfold allowsB at this
        rw [← srt_is hpm hs, ← srt_is hpm3 hs3] at this
        have ec : decide (ys = zs) = decide (zs = ys) := by
          by_cases h : ys = zs
          · subst h; rfl
          · rw [decide_eq_false h, decide_eq_false fun z => h z.symm]
        rw [ec] at this
        exact this
end
end K31
set_option Elab.async false
set_option linter.all false
set_option maxRecDepth 100000
set_option maxHeartbeats 4000000
namespace K31
open PySem PySem.Spec PyProof.Rows L2 He
open C8 (Cal Met Mak pe_c pe_mk pe_mt pe_mt0 pe_gc)
section
variable {P : Program} {w : World} {K : PySem.W.Frag} {mg : Str → Option Value} {base : Heap}
structure LToldsL (H : Hp) (q : Addr) (ps : Pins) : Prop where
  at_ : H q = some (.lst (ps.map fun e => V.ref e.1))
  each : ∀ e ∈ ps, LTold H e.1 e.2 ∧ e.2.ok
theorem Sub.lts {H H' : Hp} {q : Addr} {ps : Pins} (s : Sub H H') (h : LToldsL H q ps) : LToldsL H' q ps := ⟨s _ _ h.at_, fun e he => ⟨s _ _ (h.each e he).1, (h.each e he).2⟩⟩
theorem lt_who {t : Told} : atI (ldV t) ((1 : Nat) : Int) = some (.int (t.who : Nat)) := by
  rw [atI_n]
  cases t <;> rfl
/-! ### _law_costs -/
def sp_law_costs (K : PySem.W.Frag) : Sp := fun vs H Q _ => ∃ (p a g q : Addr) (lp lg : List (Str × Str)) (xs : List Str) (ps : Pins), vs = [.ref p, .ref a, .ref g, .ref q] ∧ FDf V.str H p lp ∧ Tree lp ∧ H a = some (.lst (xs.map V.str)) ∧ (∀ x ∈ xs, x ∈ places lp) ∧ xs.length ≤ 60 ∧
  FDf V.str H g lg ∧ Tree lg ∧ LToldsL H q ps ∧ ps.length ≤ 100 ∧ ∀ (F : Addr) (H' : Hp), H F = none → Sub H H' → CostsAt H' F (rowsOf lp lg (ps.map (·.2)) xs) → Q (.ref F) H'
abbrev n_law_costs : List Str := ["_law_parents_here", "_law_spots_here", "_law_web", "_law_tolds_here", "_law_found_here", "_law_who", "_law_spot", "_law_here", "_law_costs_here", "_law_own", "_law_other", "_law_there", "_law_told"]
theorem sc_law_costs : FnScope n_law_costs ["_law_parents_here", "_law_spots_here", "_law_web", "_law_tolds_here"] (defScope s_law_costs) := ⟨rfl, rfl, rfl, by decide +kernel, rfl, by decide +kernel, by decide +kernel⟩
theorem ok_law_costs (T : Txt K mg) : Cal P w K mg base 14 "_law_costs" (sp_law_costs K) [] := by
  refine cal_of T.f__law_costs T.g__law_costs sc_law_costs (fun vs H Q E h => ?_) (fun _ _ _ _ _ _ us hl => match us, hl with | [_, _, _, _], _ => rfl) (fun f0 cdv A outer s0 H vs Q E hr h => ?_)
  · obtain ⟨f, a, g, q, lp, lg, xs, ps, rfl, _⟩ := h
    rfl
  · obtain ⟨f, a, g, q, lp, lg, xs, ps, rfl, hf, tp, ha, hx, h60, hg, tg, hq, hps, k⟩ := h
    have hu := hu_of hr
    have hlg : (places lg).length ≤ 13 := places_len tg
    have tg12 := tg.hi
    refine ⟨_, (pss_cons (ps_set (i := 4) sc_law_costs.nd rfl (.inl rfl) (pe_lst pa_nil))
  (pss_cons (ps_for PassesOwn.never rfl (pi_enum rfl T.n_enumerate (pa_cons (pv 1) pa_nil)) (pg_tup (n := 2) rfl (pgs_cons (pg_name (i := 5) sc_law_costs.nd rfl (.inr rfl)) (pgs_cons (pg_name (i := 6) sc_law_costs.nd rfl (.inl rfl)) pgs_nil)))
  (pss_cons (ps_asg (pe_tup (pa_cons (pe_c (ok_law_path T 12) hr (by decide) rfl (pa_cons (pv 0) (pa_cons (pv 6) pa_nil))) (pa_cons pe_dnewK (pa_cons (pe_lc (own := [("_law_told", 12)]) (g := (gName 12)) (tt := (tTest (tOp rEq (tOp (rIxT K) (tVar 12) (tC (.int 1))) (tVar 5)))) (te := (tVar 12)) rfl sc_law_costs.nd (pi_list (pv 3)) (blkOk_by (N := n_law_costs) (sc := defScope s_law_costs) (by decide +kernel)) (fun _ _ _ _ _ => (pg_name (i := 12) sc_law_costs.nd rfl (.inl rfl))) (fun _ _ _ _ _ => pts_one (pt_cmpR op_eq (pe_ix ix_tup (pv 12) pe_int (fun _ _ => rfl)) (pv 5) (nomark _))) (fun _ _ _ _ _ => (pv 12))) pa_nil)))) (pg_tup (n := 3) rfl (pgs_cons (pg_name (i := 7) sc_law_costs.nd rfl (.inr rfl)) (pgs_cons (pg_name (i := 8) sc_law_costs.nd rfl (.inl rfl)) (pgs_cons (pg_name (i := 9) sc_law_costs.nd rfl (.inl rfl)) pgs_nil)))))
  (pss_cons (ps_for PassesOwn.never rfl (pi_list (pe_c (ok_law_places T) hr (by decide) rfl (pa_cons (pv 2) pa_nil))) (pg_name (i := 10) sc_law_costs.nd rfl (.inl rfl))
  (pss_cons (ps_set (i := 11) sc_law_costs.nd rfl (.inr rfl) (pe_c (ok_law_path T 12) hr (by decide) rfl (pa_cons (pv 2) (pa_cons (pv 10) pa_nil))))
  (pss_one (ps_if (pt_cmpR (op_eqD hr.units) (pe_lc (own := [("_law_told", 12)]) (g := (gName 12)) (tt := (tNot (tB (tCall (sp_law_allows K) [] E0 (tCons (tVar 12) (tCons (tVar 7) (tCons (tVar 11) (tCons (tCB kSortedD (tCons (tVar 2) tNil)) tNil)))))))) (te := (tVar 12)) rfl sc_law_costs.nd (pi_list (pv 9)) (blkOk_by (N := n_law_costs) (sc := defScope s_law_costs) (by decide +kernel)) (fun _ _ _ _ _ => (pg_name (i := 12) sc_law_costs.nd rfl (.inl rfl))) (fun _ _ _ _ _ => pts_one (pt_not (pt_val (pe_c (ok_law_allows T) hr (by decide) rfl (pa_cons (pv 12) (pa_cons (pv 7) (pa_cons (pv 11) (pa_cons (pe_callB (c_sortedD rfl) rfl T.n_sorted (by decide +kernel) (pa_cons (pv 2) pa_nil)) pa_nil)))))))) (fun _ _ _ _ _ => (pv 12))) (pe_lst pa_nil) (nomark _)) (pss_one (ps_dput hu (pv 8) (pv 10) (pe_c (ok_law_apart T) hr (by decide) rfl (pa_cons (pv 7) (pa_cons (pv 11) pa_nil))) rfl)) pss_nil))))
  (pss_one (ps_expr (pe_bm PySem.F.plainAttrs_list PySem.F.slot_list_append PySem.F.type_list_append mt_append (pv 4) (pa_cons (pe_freeze (pv 8)) pa_nil)))))))
  (pss_one (ps_ret (pv 4))))), ?_⟩
    refine ⟨by decide, fun F nF => ?_⟩
    refine ⟨_, rfl, a, _, rfl, SqL.of ((Sub.new nF) _ _ ha), ?_⟩
    have aF : a ≠ F := ne_of_none ha nF
    refine for_it (walkE (K := K) (a := a) (data := xs) (f := V.str)) (fun i σ H' => ∃ o5 o6 o7 o8 o9 o10 o11, σ = [some (.ref f), some (.ref a), some (.ref g), some (.ref q), some (.ref F), o5, o6, o7, o8, o9, o10, o11, none] ∧ Sub H H' ∧ CostsAt H' F (rowsOf lp lg (ps.map (·.2)) (xs.take i)))
      ⟨_, _, _, _, _, _, _, rfl, Sub.new nF, ⟨[], upd_same, rfl, fun _ h => absurd h (by simp)⟩⟩ (fun i σ H' _ ⟨_, _, _, _, _, _, _, _, s, _⟩ => SqL.of (s _ _ ha)) ?_ (fun σ H2 ⟨_, _, _, _, _, _, _, hσ, s2, hc⟩ => ?_)
    rotate_left
    · subst hσ
      rw [List.take_length] at hc
      exact ⟨_, rfl, k F H2 nF s2 hc⟩
    rintro i x σ H2 H3 hi ⟨o5, o6, o7, o8, o9, o10, o11, rfl, s2, hc⟩ ⟨t, u, v, rfl, hn1, rfl, eu, ev⟩
    cases eu
    have := get_map hi ev
    subst this
    have hm := hx _ (List.getElem_mem hi)
    have tk := take_get hi
    generalize xs[i] = x at hm tk ⊢
    have s23 : Sub H2 (upd H2 t (.tup [.int (i : Nat), .str x])) := Sub.new hn1
    generalize hH3 : upd H2 t (.tup [.int (i : Nat), .str x]) = H3 at s23 ⊢
    have s3 := s2.trans s23
    have hc3 := s23.costs hc
    refine gPair (by rw [← hH3]; exact upd_same) ?_
    clear hH3
    obtain ⟨ip, ipl, ipn⟩ := tp.nfp hm
    refine ⟨_, rfl, _, rfl, f, lp, x, pth (aGet lp) x, rfl, s3.rd hf.rd, ip, ipl, by decide, fun pa H4 n4 s34 e4 => ?_⟩
    have s4 := s3.trans s34
    refine fun C nC => ?_
    have s4C : Sub H4 (upd H4 C (.dK [])) := Sub.new nC
    have eC : (upd H4 C (.dK [])) C = some (.dK []) := upd_same
    have nC3 : H3 C = none := s34.fresh nC
    have CH : H C = none := s3.fresh nC3
    have e4C := s4C _ _ e4
    have s3C := s34.trans s4C
    generalize upd H4 C (.dK []) = H4' at s4C eC e4C s3C ⊢
    clear s4C nC e4 s34 s4 n4
    have s4 := s3.trans s3C
    refine ⟨_, rfl, q, rfl, ⟨_, SqL.of (s4.lts hq).at_⟩, k_lcD (data := ps) (toV := fun e : Addr × Told => V.ref e.1) (walkL (K := K) (a := q) (data := ps) (f := fun e : Addr × Told => V.ref e.1)) (fun H' s => SqL.of (s _ _ (s4.lts hq).at_)) (fun e : Addr × Told => decide (e.2.who = i)) (fun e : Addr × Told => .ref e.1) (by omega) (fun j e H' he s Q2 q2 => ?_) (fun j e H' _ _ s Q2 q2 => ⟨_, rfl, q2 _ _ (Sub.refl _) rfl⟩) (fun O H5 n5 s45 e5 => ?_)⟩
    · refine ⟨_, rfl, e.1, _, ((1 : Nat) : Int), _, rfl, rfl, SqT.of ((s4.trans s).lts hq |>.each e (List.mem_of_getElem? he)).1, lt_who, _, rfl, rfl, _, rfl, ?_⟩
      rw [dint]
      exact q2 _ (Sub.refl _)
    refine ⟨sz (by simp), fun t2 nt2 => ?_⟩
    have st2 : Sub H5 (upd H5 t2 (.tup [.ref pa, .ref C, .ref O])) := Sub.new nt2
    have et2 : (upd H5 t2 (.tup [.ref pa, .ref C, .ref O])) t2 = some (.tup [.ref pa, .ref C, .ref O]) := upd_same
    generalize upd H5 t2 (.tup [.ref pa, .ref C, .ref O]) = H6 at st2 et2 ⊢
    refine ⟨t2, _, rfl, SqT.of et2, rfl, _, _, rfl, _, _, rfl, _, _, rfl, rfl, ?_⟩
    have s46 := s45.trans st2
    have e6O := st2 _ _ e5
    have e6C := s46 _ _ eC
    have e6p := s46 _ _ e4C
    have s36 := s3C.trans s46
    have s6 := s3.trans s36
    clear st2 et2 nt2 s45 e5 n5 e4C eC s46 s3C s4
    refine ⟨_, rfl, g, lg, rfl, s6.f hg, by omega, fun ys L H7 hpm hs n7 s67 e7 => ?_⟩
    have hys := srt_is hpm hs
    subst hys
    have e7 : H7 L = some (.lst ((places lg).map V.str)) := e7
    refine ⟨L, rfl, ⟨_, SqL.of e7⟩, ?_⟩
    have LC : L ≠ C := (ne_of_none e6C n7).symm
    have nO : O ≠ C := fun z => by rw [z, e6C] at e6O; cases e6O
    have np : pa ≠ C := fun z => by rw [z, e6C] at e6p; cases e6p
    have e7C : H7 C = some (.dK (kS V.int (rowTo lp lg (ps.map (·.2)) i x []))) := s67 _ _ e6C
    have s37 := s36.trans s67
    have e7O := s67 _ _ e6O
    have e7p := s67 _ _ e6p
    refine for_it (walkL (K := K) (a := L) (data := places lg) (f := V.str)) (fun j σ H' => ∃ o10 o11, σ = [some (.ref f), some (.ref a), some (.ref g), some (.ref q), some (.ref F), some (.int (i : Nat)), some (.str x), some (.ref pa), some (.ref C), some (.ref O), o10, o11, none] ∧ Sub H3 H' ∧ H' L = some (.lst ((places lg).map V.str)) ∧ H' O = some (.lst ((ps.filter fun e : Addr × Told => decide (e.2.who = i)).map fun e : Addr × Told => V.ref e.1)) ∧ H' pa = some (.tup ((pth (aGet lp) x).map V.str)) ∧ H' C = some (.dK (kS V.int (rowTo lp lg (ps.map (·.2)) i x ((places lg).take j)))))
      ⟨_, _, rfl, s37, e7, e7O, e7p, e7C⟩ (fun j σ H' _ ⟨_, _, _, _, e, _⟩ => SqL.of e) ?_ (fun σ H7 ⟨_, _, hσ, s57, _, _, _, eC7⟩ => ?_)
    rotate_left
    · subst hσ
      rw [List.take_length] at eC7
      have s37 := s57
      obtain ⟨cs, c1, c2, c3⟩ := (s37.costs hc3).ex
      refine ⟨_, rfl, .inl ⟨rfl, _, SqL.of c1⟩, ?_⟩
      refine ⟨_, rfl, C, _, rfl, eC7, True.intro, fun o => ?_⟩
      have FC : F ≠ C := fun z => by rw [z, eC7] at c1; cases c1
      have s8 : Sub H3 (upd H7 C (.frz o (.dK (kS V.int (rowTo lp lg (ps.map (·.2)) i x (places lg)))))) := s37.mut nC3
      have hlen : cs.length ≤ 60 := by
        have := congrArg List.length c2
        rw [List.length_map] at this
        rw [this]
        unfold rowsOf
        rw [List.length_mapIdx, List.length_take]
        omega
      refine ⟨F, _, .ref C, rfl, rfl, (upd_ne FC).trans c1, szl (by rw [List.length_map]; omega), ?_⟩
      have nF3 : ∀ e ∈ cs, e.1 ≠ F := fun e he z => by
        obtain ⟨o', e'⟩ := c3 e he
        rw [z, c1] at e'
        cases e'
      have nC3 : ∀ e ∈ cs, e.1 ≠ C := fun e he z => by
        obtain ⟨o', e'⟩ := c3 e he
        rw [z, eC7] at e'
        cases e'
      refine ⟨_, _, _, _, _, _, _, rfl, (s3.trans s8).mut nF, ⟨cs ++ [(C, rowTo lp lg (ps.map (·.2)) i x (places lg))], ?_, ?_, ?_⟩⟩
      · rw [upd_same, List.map_append]; rfl
      · rw [tk, rowsOf_snoc, List.map_append, c2, List.length_take, Nat.min_eq_left (Nat.le_of_lt hi)]
        rfl
      · intro e he
        rcases List.mem_append.mp he with z | z
        · obtain ⟨o', e'⟩ := c3 e z
          exact ⟨o', by rw [upd_ne (nF3 e z), upd_ne (nC3 e z)]; exact e'⟩
        · have : e = (C, rowTo lp lg (ps.map (·.2)) i x (places lg)) := by simpa using z
          subst this
          exact ⟨o, by rw [upd_ne FC.symm]; exact upd_same⟩
    rintro j y σ H7 H8 hj ⟨o10, o11, rfl, s37, e7, e7O, e7p, e7C⟩ ⟨ez, ey⟩
    subst ez
    have : y = V.str (places lg)[j] := ey.trans (get_D hj)
    subst this
    have hmj : (places lg)[j] ∈ places lg := List.getElem_mem hj
    have tkj := take_get hj
    have hnj : (places lg)[j] ∉ (places lg).take j := fun z => by
      have h1 := places_nd tg
      rw [← List.take_append_drop j (places lg), List.drop_eq_getElem_cons hj] at h1
      exact (List.nodup_append.mp h1).2.2 _ z _ (List.mem_cons_self ..) rfl
    generalize (places lg)[j] = y at hmj tkj hnj ⊢
    obtain ⟨iy, iyl, iyn⟩ := tg.nfp hmj
    have s7 := s3.trans s37
    refine ⟨_, rfl, _, rfl, g, lg, y, pth (aGet lg) y, rfl, s7.rd hg.rd, iy, iyl, by decide, fun wa H9 n9 s79 e9 => ?_⟩
    have eO := s79 _ _ e7O
    refine ⟨_, rfl, O, rfl, ⟨_, SqL.of eO⟩, ?_⟩
    refine k_lcD (data := ps.filter fun e : Addr × Told => decide (e.2.who = i)) (toV := fun e : Addr × Told => V.ref e.1) (walkL (K := K) (a := O) (data := ps.filter fun e : Addr × Told => decide (e.2.who = i)) (f := fun e : Addr × Told => V.ref e.1)) (fun H' s => s.l (SqL.of eO)) (fun e : Addr × Told => !allowsB (srt (lg.map (·.1))) (pth (aGet lp) x) (pth (aGet lg) y) e.2) (fun e : Addr × Told => .ref e.1) (Nat.le_trans (List.length_filter_le _ _) (by omega)) (fun m e H' he s Q2 q2 => ?_) (fun m e H' _ _ s Q2 q2 => ⟨_, rfl, q2 _ _ (Sub.refl _) rfl⟩) (fun B H10 n10 s910 e10 => ?_)
    · have hme : e ∈ ps := (List.mem_filter.mp (List.mem_of_getElem? he)).1
      have s5' := (s7.trans s79).trans s
      refine ⟨_, rfl, _, rfl, _, rfl, _, rfl, g, kS V.str lg, lg.map (·.1), rfl, s5'.rd hg.rd, by unfold kS; rw [List.map_map, List.map_map]; rfl, by rw [List.length_map]; omega, fun ys fl hpm hs nfl => ?_⟩
      have hys := srt_is hpm hs
      subst hys
      have sfl : Sub H' (upd H' fl (.lst ((srt (lg.map (·.1))).map V.str))) := Sub.new nfl
      exact ⟨e.1, pa, wa, fl, e.2, srt (lg.map (·.1)), pth (aGet lp) x, pth (aGet lg) y, rfl, ((s5'.trans sfl).lts hq |>.each e hme).1, ((s79.trans s).trans sfl).t (SqT.of e7p), (s.trans sfl).t (SqT.of e9), SqL.of upd_same, ipl, iyl, ipn, iyn, fun H' s' => ⟨_, rfl, q2 _ (sfl.trans s')⟩⟩
    have sB := s79.trans s910
    refine ⟨sz (by simp), fun N nN => ?_⟩
    have sN : Sub H10 (upd H10 N (.lst [])) := Sub.new nN
    have hnest : ∀ z ∈ ((ps.filter fun e : Addr × Told => decide (e.2.who = i)).filter fun e : Addr × Told => !allowsB (srt (lg.map (·.1))) (pth (aGet lp) x) (pth (aGet lg) y) e.2).map (fun e : Addr × Told => V.ref e.1), NestOk K (upd H10 N (.lst [])) z := fun z hz => by
      obtain ⟨e, he, rfl⟩ := List.mem_map.mp hz
      have hme : e ∈ ps := (List.mem_filter.mp (List.mem_filter.mp he).1).1
      have := ((s7.trans sB).trans sN).lts hq |>.each e hme
      exact lt_nest this.1 this.2
    refine eq_nest hnest (SqL.of (sN _ _ e10)) (SqL.of upd_same) ⟨_, rfl, ?_⟩
    have s711 := sB.trans sN
    have s911 := s910.trans sN
    generalize upd H10 N (.lst []) = H11 at s711 s911 ⊢
    clear hnest nN sN sB e10 n10 s910
    have eall : (((ps.filter fun e : Addr × Told => decide (e.2.who = i)).filter fun e : Addr × Told => !allowsB (srt (lg.map (·.1))) (pth (aGet lp) x) (pth (aGet lg) y) e.2).map (fun e : Addr × Told => V.ref e.1)).isEmpty = (((ps.map (·.2)).filter fun t => decide (t.who = i)).all fun t => allowsB (srt (lg.map (·.1))) (pth (aGet lp) x) (pth (aGet lg) y) t) := by
      rw [List.filter_map, List.all_map]
      generalize hF : (ps.filter fun e : Addr × Told => decide (e.2.who = i)) = fs
      have hF2 : List.filter ((fun t : Told => decide (t.who = i)) ∘ fun x : Addr × Told => x.snd) ps = fs := hF
      rw [hF2]
      clear hF hF2
      induction fs with
      | nil => rfl
      | cons e fs ih =>
        rw [List.filter_cons, List.all_cons, ← ih]
        cases h : allowsB (srt (lg.map (·.1))) (pth (aGet lp) x) (pth (aGet lg) y) e.2 with
        | true => simp [h]
        | false => simp [h]
    rw [eall]
    refine rd_ite (fun hb => ?_) (fun hb => ?_)
    · refine ⟨_, rfl, _, rfl, pa, wa, pth (aGet lp) x, pth (aGet lg) y, rfl, s711.t (SqT.of e7p), s911.t (SqT.of e9), by omega, by omega, fun H12 s12 => ?_⟩
      have s712 := s711.trans s12
      refine ⟨_, rfl, _, rfl, C, _, rfl, dput_d (s712 _ _ e7C) y _ (by have := rowTo_len (lp := lp) (lg := lg) (ts := ps.map (·.2)) (u := i) (x := x) (pl := (places lg).take j); rw [List.length_take] at this; omega), ?_⟩
      refine ⟨_, _, rfl, (s37.trans s712).mut nC3, (upd_ne LC).trans (s712 _ _ e7), (upd_ne nO).trans (s712 _ _ e7O), (upd_ne np).trans (s712 _ _ e7p), ?_⟩
      rw [upd_same, aPut_new (rowTo_sub hnj), tkj, rowTo_snoc, if_pos hb]
    · refine ⟨_, _, rfl, s37.trans s711, s711 _ _ e7, s711 _ _ e7O, s711 _ _ e7p, ?_⟩
      rw [tkj, rowTo_snoc, if_neg (by rw [hb]; decide), List.append_nil]
      exact s711 _ _ e7C
end
end K31
set_option Elab.async false
set_option linter.all false
set_option maxRecDepth 100000
set_option maxHeartbeats 4000000
namespace K31
open PySem PySem.Spec PyProof.Rows L2 He
open C8 (Cal Met Mak pe_c pe_mk pe_mt pe_mt0 pe_gc)
theorem any_filter {α β : Type} (f : α → Bool) (g : α → β) : ∀ l : List α, (!((l.filter f).map g).isEmpty) = l.any f
  | [] => rfl
  | a :: l => by
    rw [List.filter_cons, List.any_cons]
    cases h : f a with
    | true => simp
    | false => simpa using any_filter f g l
section
variable {P : Program} {w : World} {K : PySem.W.Frag} {mg : Str → Option Value} {base : Heap}
/-! ### _law_too_many -/
def sp_law_too_many (K : PySem.W.Frag) : Sp := fun vs H Q _ => ∃ (F r p : Addr) (rows : Rows) (lg : List (Str × Str)) (room : Str → Nat) (S : List Nat), vs = [.ref F, .ref r, .ref p] ∧ CostsAt H F rows ∧ FDf V.int H r (roomL lg room) ∧ Tree lg ∧ H p = some (.tup (S.map fun i : Nat => V.int (i : Int))) ∧ (∀ u ∈ S, u < rows.length) ∧ S.length ≤ 60 ∧
  ∀ H', Sub H H' → Q (.bl (tooMany (places lg) room (costOf rows) S)) H'
abbrev n_law_too_many : List Str := ["_law_costs_here", "_law_rooms_here", "_law_some", "_law_spots_here", "_law_spot", "_law_who"]
theorem sc_law_too_many : FnScope n_law_too_many ["_law_costs_here", "_law_rooms_here", "_law_some"] (defScope s_law_too_many) := ⟨rfl, rfl, rfl, by decide +kernel, rfl, by decide +kernel, by decide +kernel⟩
theorem ok_law_too_many (T : Txt K mg) : Cal P w K mg base 1 "_law_too_many" (sp_law_too_many K) [] := by
  refine cal_of T.f__law_too_many T.g__law_too_many sc_law_too_many (fun vs H Q E h => ?_) (fun _ _ _ _ _ _ us hl => match us, hl with | [_, _, _], _ => rfl) (fun f0 cdv A outer s0 H vs Q E hr h => ?_)
  · obtain ⟨F, r, p, rows, lg, room, S, rfl, _⟩ := h
    rfl
  · obtain ⟨F, r, p, rows, lg, room, S, rfl, hc, er, tg, ep, hlt, hl60, k⟩ := h
    have hu := hu_of hr
    refine ⟨_, (pss_cons (ps_setLc (i := 3) (own := [("_law_spot", 4)]) (g := (gName 4)) (tt := (tTest (tOp (rNeD K) (tLc (iTup K (tVar 2)) (gName 5) (tB (tDIn (tVar 4) (tOp (rIxL K) (tVar 0) (tVar 5)))) (tVar 5) [5]) (tLst tNil)))) (te := (tVar 4)) rfl sc_law_too_many.nd rfl rfl (sw_true rfl rfl rfl (by decide +kernel)) (pi_keys (pv 1)) (blkOk_by (N := n_law_too_many) (sc := defScope s_law_too_many) (by decide +kernel)) (fun _ _ _ _ _ => (pg_name (i := 4) sc_law_too_many.nd rfl (.inr rfl))) (fun _ _ _ _ _ => pts_one (pt_cmpR (op_neD hr.units) (pe_lc (own := [("_law_who", 5)]) (g := (gName 5)) (tt := (tB (tDIn (tVar 4) (tOp (rIxL K) (tVar 0) (tVar 5))))) (te := (tVar 5)) rfl sc_law_too_many.nd (pi_tup (pv 2)) (blkOk_by (N := n_law_too_many) (sc := ⟨.function, [(".0", .local), ("_law_spot", .cell), ("_law_costs_here", .cell), ("_law_some", .cell)], false, false, []⟩) (by decide +kernel)) (fun _ _ _ _ _ => (pg_name (i := 5) sc_law_too_many.nd rfl (.inl rfl))) (fun _ _ _ _ _ => pts_one (pt_cmp (pc_din hu (pv 4) (pe_ix ix_list (pv 0) (pv 5) (fun _ _ => rfl))))) (fun _ _ _ _ _ => (pv 5))) (pe_lst pa_nil) (nomark _))) (fun _ _ _ _ _ => (pv 4)))
  (pss_one (ps_ret (pe_cmpR op_lt (pe_callB (cr_sum rfl) rfl T.n_sum (by decide +kernel) (pa_cons (pe_lc (own := [("_law_spot", 4)]) (g := (gName 4)) (tt := tYes) (te := (tDGet (tVar 1) (tVar 4))) rfl sc_law_too_many.nd (pi_list (pv 3)) (blkOk_by (N := n_law_too_many) (sc := defScope s_law_too_many) (by decide +kernel)) (fun _ _ _ _ _ => (pg_name (i := 4) sc_law_too_many.nd rfl (.inl rfl))) (fun _ _ _ _ _ => pts_nil) (fun _ _ _ _ _ => (pe_dget hu (pv 1) (pv 4) (fun _ _ => rfl)))) pa_nil)) (pe_callB c_lenL rfl T.n_len (by decide +kernel) (pa_cons (pv 2) pa_nil)) (nomark _))))), ?_⟩
    obtain ⟨oR, eR⟩ := id er
    have hU13 := places_len tg
    refine ⟨_, rfl, r, oR, rfl, .inl ⟨_, eR, ?_⟩⟩
    refine k_lcD (data := roomL lg room) (toV := fun e : Str × Int => V.str e.1) (walkK (g := V.int) (l := roomL lg room)) (fun H' s => s _ _ eR) (fun e => S.any fun u => (costOf rows u e.1).isSome) (fun e => .str e.1) (by rw [roomL, fnL, List.length_map]; omega) (fun i e H' he s' Q' q' => ?_) (fun i e H' _ _ s' Q' q' => ⟨_, rfl, q' _ _ (Sub.refl _) rfl⟩) (fun D2 H6 n6 s6 e6 => ?_)
    · refine ⟨_, rfl, p, rfl, ⟨_, SqT.of (s' _ _ ep)⟩, ?_⟩
      refine k_lcD (data := S) (toV := fun i : Nat => V.int (i : Int)) (walkT (K := K) (a := p) (data := S) (f := fun i : Nat => V.int (i : Int))) (fun Ha sa => sa.t (SqT.of (s' _ _ ep))) (fun u => (costOf rows u e.1).isSome) (fun u => .int (u : Int)) (by omega) (fun j u Ha hj sa Qa qa => ?_) (fun _ _ _ _ _ sa Qa qa => ⟨_, rfl, qa _ _ (Sub.refl _) rfl⟩) (fun D3 H7 n7 s7 e7 => ?_)
      · have hul := hlt u (List.mem_of_getElem? hj)
        have hru : rows[u]? = some rows[u] := List.getElem?_eq_getElem (by omega)
        obtain ⟨cs2, d, g1, g2, g3⟩ := ((s'.trans sa).costs hc).row hru
        refine ⟨_, rfl, _, rfl, _, rfl, F, _, _, _, rfl, rfl, SqL.of g1, g2, d, _, rfl, dget_r g3.rd e.1, _, rfl, ?_⟩
        have := qa _ (Sub.refl _)
        unfold costOf at this
        rw [hru, Option.bind_some] at this
        rw [Option.isSome_map]
        exact this
      · refine ⟨by decide, fun N nN => ?_⟩
        have sN : Sub H7 (upd H7 N (.lst [])) := Sub.new nN
        refine ne_flat (fun x hx => ?_) (SqL.of (sN _ _ e7)) (SqL.of upd_same) ⟨_, rfl, ?_⟩
        · obtain ⟨u, _, rfl⟩ := List.mem_map.mp hx
          exact .inr ⟨_, rfl⟩
        · rw [any_filter]
          exact q' _ (s7.trans sN)
    have e6 : H6 D2 = some (.lst ((allowedOf (places lg) (costOf rows) S).map V.str)) := by
      rw [e6]
      unfold roomL fnL allowedOf
      rw [List.filter_map, List.map_map]
      rfl
    refine ⟨_, rfl, D2, rfl, ⟨_, SqL.of e6⟩, ?_⟩
    have hal : (allowedOf (places lg) (costOf rows) S).length ≤ 13 := Nat.le_trans (List.length_filter_le _ _) hU13
    refine k_lcD (data := allowedOf (places lg) (costOf rows) S) (toV := V.str) (walkL (K := K) (a := D2) (data := allowedOf (places lg) (costOf rows) S) (f := V.str)) (fun H' s => s.l (SqL.of e6)) (fun _ => true) (fun p => .int (room p : Int)) (by omega) (fun _ _ _ _ _ => evB_yes) (fun i y H' hy _ s' Q' q' => ?_) (fun D4 H7 n7 s7 e7 => ?_)
    · have hyU := (List.mem_filter.mp (List.mem_of_getElem? hy)).1
      refine ⟨_, rfl, _, rfl, r, .int (room y : Int), rfl, ?_, q' _ _ (Sub.refl _) rfl⟩
      have := dget_r (.inr ⟨oR, s' _ _ (s6 _ _ eR)⟩ : RD V.int H' r (roomL lg room)) y
      rw [roomL, fnL_get hyU] at this
      exact this
    refine ⟨D4, (allowedOf (places lg) (costOf rows) S).map fun p => (room p : Int), rfl, SqL.of ?_, ?_⟩
    · rw [e7, List.filter_eq_self.mpr fun _ _ => rfl, List.map_map]
      rfl
    refine ⟨_, rfl, p, _, rfl, .inr (SqT.of (s7 _ _ (s6 _ _ ep))), _, _, rfl, rfl, ?_⟩
    have k7 := k H7 (s6.trans s7)
    unfold tooMany at k7
    rw [sum_room, List.length_map]
    have ed : decide (((sumOn room (allowedOf (places lg) (costOf rows) S) : Nat) : Int) < (S.length : Int)) = decide (sumOn room (allowedOf (places lg) (costOf rows) S) < S.length) := by
      by_cases h : sumOn room (allowedOf (places lg) (costOf rows) S) < S.length
      · rw [decide_eq_true h, decide_eq_true (by omega)]
      · rw [decide_eq_false h, decide_eq_false (by omega)]
    rw [← ed] at k7
    exact k7
end
end K31
set_option Elab.async false
set_option linter.all false
set_option maxRecDepth 100000
set_option maxHeartbeats 4000000
namespace K31
open PySem PySem.Spec PyProof.Rows L2 He
open C8 (Cal Met Mak pe_c pe_mk pe_mt pe_mt0 pe_gc)
/-! ### cuts -/
theorem cutV_take {xs : List V} {k : Nat} : cutV xs none (some (k : Int)) = xs.take k := by
  unfold cutV
  rw [HT.sIx_none, HT.sIx_nat, List.drop_zero, Nat.sub_zero]
  by_cases h : k ≤ xs.length
  · rw [Nat.min_eq_left h]
  · rw [Nat.min_eq_right (by omega), List.take_length, List.take_of_length_le (by omega)]
theorem cutV_drop {xs : List V} {k : Nat} : cutV xs (some (k : Int)) none = xs.drop k := by
  unfold cutV
  rw [HT.sIx_none, HT.sIx_nat]
  by_cases h : k ≤ xs.length
  · rw [Nat.min_eq_left h, List.take_of_length_le (by rw [List.length_drop]; omega)]
  · rw [Nat.min_eq_right (by omega), Nat.sub_self, List.take_zero, List.drop_eq_nil_iff.mpr (by omega)]
section
variable {P : Program} {w : World} {K : PySem.W.Frag} {mg : Str → Option Value} {base : Heap}
theorem rd_catA {H : Hp} {a b : Addr} {xs ys : List V} {Q : VK} (ea : H a = some (.tup xs)) (eb : H b = some (.tup ys)) (hl : xs.length + ys.length ≤ 100000) (q : ∀ p H', Sub H H' → H' p = some (.tup (xs ++ ys)) → Q (.ref p) H') : rCatA K (.ref a) (.ref b) H Q := by
  refine ⟨a, b, xs, ys, rfl, rfl, SqT.of ea, SqT.of eb, sz hl, fun e => ?_, fun _ e => ?_, fun _ _ p np => ?_⟩
  · subst e
    exact q b H (Sub.refl _) eb
  · subst e
    exact q a H (Sub.refl _) (by rw [List.append_nil]; exact ea)
  · exact q p _ (Sub.new np) upd_same
theorem rd_slA {H : Hp} {a : Addr} {xs : List V} {lo hi : Option Int} {Q : VK} (ea : H a = some (.tup xs)) (q : ∀ p H', Sub H H' → H' p = some (.tup (cutV xs lo hi)) → Q (.ref p) H') : rSlA K (.ref a) lo hi H Q := by
  refine ⟨a, xs, rfl, SqT.of ea, fun ⟨h1, h2⟩ => ?_, fun _ p np => ?_⟩
  · refine q a H (Sub.refl _) ?_
    unfold cutV
    rw [h1, h2, List.drop_zero, Nat.sub_zero, List.take_length]
    exact ea
  · exact q p _ (Sub.new np) upd_same
/-! ### _law_sets -/
abbrev intsV (S : List Nat) : List V := S.map fun i : Nat => V.int (i : Int)
structure SetsAt (H : Hp) (L : Addr) (ss : List (List Nat)) : Prop where
  ex : ∃ es : List (Addr × List Nat), H L = some (.lst (es.map fun e => V.ref e.1)) ∧ es.map (·.2) = ss ∧ ∀ e ∈ es, H e.1 = some (.tup (intsV e.2))
theorem Sub.sets {H H' : Hp} {L : Addr} {ss : List (List Nat)} (s : Sub H H') (h : SetsAt H L ss) : SetsAt H' L ss := let ⟨es, h1, h2, h3⟩ := h.ex; ⟨es, s _ _ h1, h2, fun e he => s _ _ (h3 e he)⟩
theorem sets_len : ∀ n : Nat, (setsUpTo n).length = 2 ^ n
  | 0 => rfl
  | n + 1 => by
    show (setsUpTo n ++ (setsUpTo n).map _).length = _
    rw [List.length_append, List.length_map, sets_len n, Nat.pow_succ]
    omega
def sp_law_sets (K : PySem.W.Frag) : Sp := fun vs H Q _ => ∃ (n : Nat), vs = [.int (n : Int)] ∧ n ≤ 8 ∧ ∀ (L : Addr) (H' : Hp), H L = none → Sub H H' → SetsAt H' L (everyOf n) → Q (.ref L) H'
abbrev n_law_sets : List Str := ["_law_total", "_law_found_here", "_law_who", "_law_row"]
theorem sc_law_sets : FnScope n_law_sets ["_law_total"] (defScope s_law_sets) := ⟨rfl, rfl, rfl, by decide +kernel, rfl, by decide +kernel, by decide +kernel⟩
theorem ok_law_sets (T : Txt K mg) : Cal P w K mg base 1 "_law_sets" (sp_law_sets K) [] := by
  refine cal_of T.f__law_sets T.g__law_sets sc_law_sets (fun vs H Q E h => ?_) (fun _ _ _ _ _ _ us hl => match us, hl with | [_], _ => rfl) (fun f0 cdv A outer s0 H vs Q E hr h => ?_)
  · obtain ⟨n, rfl, _⟩ := h
    rfl
  · obtain ⟨n, rfl, hn, k⟩ := h
    refine ⟨_, (pss_cons (ps_set (i := 1) sc_law_sets.nd rfl (.inl rfl) (pe_lst (pa_cons (pe_tup pa_nil) pa_nil)))
  (pss_cons (ps_for PassesOwn.never rfl (pi_range1 rfl T.n_range (pa_cons (pv 0) pa_nil)) (pg_name (i := 2) sc_law_sets.nd rfl (.inr rfl))
  (pss_one (ps_set (i := 1) sc_law_sets.nd rfl (.inl rfl) (pe_op op_cat (pv 1) (pe_lc (own := [("_law_row", 3)]) (g := (gName 3)) (tt := tYes) (te := (tOp (rCatA K) (tVar 3) (tTup (tCons (tVar 2) tNil)))) rfl sc_law_sets.nd (pi_list (pv 1)) (blkOk_by (N := n_law_sets) (sc := defScope s_law_sets) (by decide +kernel)) (fun _ _ _ _ _ => (pg_name (i := 3) sc_law_sets.nd rfl (.inl rfl))) (fun _ _ _ _ _ => pts_nil) (fun _ _ _ _ _ => (pe_op op_catA (pv 3) (pe_tup (pa_cons (pv 2) pa_nil)))))))))
  (pss_one (ps_ret (pe_slice sl_list (pv 1) (po_some pe_int) po_none))))), ?_⟩
    refine ⟨by decide, fun t nt => ?_⟩
    refine ⟨sz (by simp), fun L nL => ?_⟩
    have s1 : Sub H (upd H t (.tup [])) := Sub.new nt
    have s2 : Sub (upd H t (.tup [])) (upd (upd H t (.tup [])) L (.lst [.ref t])) := Sub.new nL
    have e0 : SetsAt (upd (upd H t (.tup [])) L (.lst [.ref t])) L (setsUpTo 0) := ⟨[(t, [])], upd_same, rfl, fun e he => by
      rw [List.mem_singleton.mp he]
      exact s2 _ _ upd_same⟩
    refine ⟨_, rfl, (n : Int), rfl, by omega, by omega, ?_⟩
    rw [show (n : Int).toNat = n by omega]
    refine for_it walk_range (fun i σ H' => ∃ (L : Addr) (o2 : Option V), σ = [some (.int (n : Int)), some (.ref L), o2, none] ∧ Sub H H' ∧ SetsAt H' L (setsUpTo i)) ⟨L, none, rfl, s1.trans s2, e0⟩ (fun _ _ _ _ _ => True.intro) ?_ (fun σ H' ⟨L, o2, h1, h2, h3⟩ => ?_)
    · rintro i x σ H2 H3 hi ⟨L, o2, rfl, s, e⟩ ⟨rfl, ex⟩
      have ex : x = .int (i : Int) := by rw [ex]; show V.int (0 + (i : Int)) = _; rw [Int.zero_add]
      subst ex
      obtain ⟨es, g1, g2, g3⟩ := e.ex
      have hel : es.length ≤ 128 := by
        have h1 := congrArg List.length g2
        rw [List.length_map, sets_len] at h1
        have : 2 ^ i ≤ 2 ^ 7 := Nat.pow_le_pow_right (by decide) (by omega)
        omega
      have hsl : ∀ e ∈ es, e.2.length ≤ 8 := fun e he => by
        have hm : e.2 ∈ setsUpTo i := by rw [← g2]; exact List.mem_map.mpr ⟨e, he, rfl⟩
        obtain ⟨h1, h2⟩ := setsUpTo_iff.mp hm
        have := ndsub_len (asc_nodup h1) (m := List.range i) fun u hu => List.mem_range.mpr (h2 u hu)
        rw [List.length_range] at this
        omega
      refine ⟨_, rfl, _, rfl, L, rfl, ⟨_, SqL.of g1⟩, ?_⟩
      refine k_lc (walkL (K := K) (a := L) (data := es) (f := fun e : Addr × List Nat => V.ref e.1)) (fun H' s => SqL.of (s _ _ g1)) (fun _ => true) (fun j ys H' => ∃ fs : List (Addr × List Nat), ys = fs.map (fun e => V.ref e.1) ∧ fs.map (·.2) = ((es.map (·.2)).take j).map (fun r => r ++ [i]) ∧ ∀ e ∈ fs, H' e.1 = some (.tup (intsV e.2))) (fun j ys Ha Hb sn ⟨fs, h1, h2, h3⟩ => ⟨fs, h1, h2, fun e he => sn _ _ (h3 e he) (fun xs z => by cases z)⟩) ⟨[], rfl, rfl, fun e he => by simp at he⟩ (by omega) (fun _ _ _ _ => evB_yes) (fun j ys H' hj _ s' ⟨fs, h1, h2, h3⟩ Q' q' => ?_) (fun _ _ _ _ z => nomatch z) (fun D ys H' n1 s' e1 ⟨fs, h1, h2, h3⟩ => ?_)
      · have ej : es[j]? = some es[j] := List.getElem?_eq_getElem hj
        have gd : es.getD j default = es[j] := by rw [List.getD_eq_getElem?_getD, ej]; rfl
        show tOp _ _ _ ((wipe _ [3]).set 3 (some (V.ref (es.getD j default).1))) H' Q'
        rw [gd]
        have hm : es[j] ∈ es := List.getElem_mem hj
        refine ⟨_, rfl, ?_⟩
        refine ⟨_, rfl, sz (by simp), fun u nu => ?_⟩
        have su : Sub H' (upd H' u (.tup [.int (i : Int)])) := Sub.new nu
        refine rd_catA (su _ _ (s' _ _ (g3 _ hm))) upd_same (by have := hsl _ hm; simp; omega) fun p Hp sp ep => ?_
        refine q' _ _ (su.trans sp) ⟨fs ++ [(p, es[j].2 ++ [i])], by rw [List.map_append, ← h1]; rfl, ?_, fun e he => ?_⟩
        · rw [List.map_append, h2]
          have ht : (es.map (·.2)).take (j + 1) = (es.map (·.2)).take j ++ [es[j].2] := by
            rw [List.take_add_one, List.getElem?_map, ej]; rfl
          rw [ht, List.map_append]
          rfl
        · rcases List.mem_append.mp he with he | he
          · exact (su.trans sp) _ _ (h3 e he)
          · rw [List.mem_singleton.mp he]
            show Hp p = some (.tup (intsV (es[j].2 ++ [i])))
            rw [ep]
            unfold intsV
            rw [List.map_append]
            rfl
      · subst h1
        have hfl : fs.length = es.length := by
          have := congrArg List.length h2
          rw [List.length_map, List.length_map, List.length_take, List.length_map] at this
          rw [this]
          simp
        refine ⟨L, D, _, _, rfl, rfl, s' _ _ g1, e1, sz (by rw [List.length_map, List.length_map]; omega), fun N nN => ?_⟩
        have sN : Sub H' (upd H' N (.lst (es.map (fun e => V.ref e.1) ++ fs.map (fun e => V.ref e.1)))) := Sub.new nN
        refine ⟨N, _, rfl, (s.trans s').trans sN, ⟨es ++ fs, by rw [upd_same, List.map_append], ?_, fun e he => ?_⟩⟩
        · rw [List.map_append, g2, h2]
          have : (es.map (·.2)).take es.length = setsUpTo i := by
            rw [g2, List.take_of_length_le]
            rw [← g2, List.length_map]
            exact Nat.le_refl _
          rw [this]
          rfl
        · rcases List.mem_append.mp he with he | he
          · exact (s'.trans sN) _ _ (g3 e he)
          · exact sN _ _ (h3 e he)
    · subst h1
      obtain ⟨es, g1, g2, g3⟩ := h3.ex
      refine ⟨_, rfl, _, rfl, L, _, rfl, SqL.of g1, fun N nN => ?_⟩
      have sN := h2.trans (Sub.new (o := .lst (cutV (es.map fun e => V.ref e.1) (some 1) none)) nN)
      refine k N _ (h2.fresh nN) sN ⟨es.drop 1, ?_, ?_, fun e he => ?_⟩
      · rw [upd_same, show (1 : Int) = ((1 : Nat) : Int) from rfl, cutV_drop, List.map_drop]
      · rw [List.map_drop, g2]
        rfl
      · rw [upd_ne (ne_of_none (g3 e (List.mem_of_mem_drop he)) nN)]
        exact g3 e (List.mem_of_mem_drop he)
end
end K31
set_option Elab.async false
set_option linter.all false
set_option maxRecDepth 100000
set_option maxHeartbeats 4000000
namespace K31
open PySem PySem.Spec PyProof.Rows L2 He
open C8 (Cal Met Mak pe_c pe_mk pe_mt pe_mt0 pe_gc)
theorem dint2 {S : List Nat} {ns : List Int} : decide ((S.map fun i : Nat => (i : Int)) = ns) = decide ((S.map fun i : Nat => (i : Int)) = ns) := rfl
section
variable {P : Program} {w : World} {K : PySem.W.Frag} {mg : Str → Option Value} {base : Heap}
/-! ### _law_due -/
def sp_law_due (K : PySem.W.Frag) : Sp := fun vs H Q _ => ∃ (F r : Addr) (x : V) (tv : Option (List V)) (rows : Rows) (lg : List (Str × Str)) (room : Str → Nat), vs = [.ref F, .ref r, x] ∧ CostsAt H F rows ∧ FDf V.int H r (roomL lg room) ∧ Tree lg ∧ ThAt K H x tv ∧ rows.length ≤ 60 ∧
  ∀ H', Sub H H' → Q (.bl (crowdB (places lg) room (costOf rows) rows.length tv)) H'
abbrev n_law_due : List Str := ["_law_costs_here", "_law_rooms_here", "_law_thing", "_law_who"]
theorem sc_law_due : FnScope n_law_due ["_law_costs_here", "_law_rooms_here", "_law_thing"] (defScope s_law_due) := ⟨rfl, rfl, rfl, by decide +kernel, rfl, by decide +kernel, by decide +kernel⟩
theorem ok_law_due (T : Txt K mg) : Cal P w K mg base 2 "_law_due" (sp_law_due K) [] := by
  refine cal_of T.f__law_due T.g__law_due sc_law_due (fun vs H Q E h => ?_) (fun _ _ _ _ _ _ us hl => match us, hl with | [_, _, _], _ => rfl) (fun f0 cdv A outer s0 H vs Q E hr h => ?_)
  · obtain ⟨F, r, x, tv, rows, lg, room, rfl, _⟩ := h
    rfl
  · obtain ⟨F, r, x, tv, rows, lg, room, rfl, hc, er, tg, hth, hr60, k⟩ := h
    refine ⟨_, (pss_cons (ps_if (pt_not (pt_val (pe_callB call_isi rfl T.n_isinstance (by decide +kernel) (pa_cons (pv 2) (pa_cons (pe_ty (n := "tuple") rfl T.n_tuple (by decide +kernel)) pa_nil))))) (pss_one (ps_ret pe_bl)) pss_nil)
  (pss_cons (ps_for PassesOwn.never rfl (pi_tup (pv 2)) (pg_name (i := 3) sc_law_due.nd rfl (.inl rfl))
  (pss_one (ps_if (PW.pt (pw_or (pt_not (pt_val (pe_callB call_isi rfl T.n_isinstance (by decide +kernel) (pa_cons (pv 3) (pa_cons (pe_ty (n := "int") rfl T.n_int (by decide +kernel)) pa_nil))))) (pw_or (pt_val (pe_callB call_isi rfl T.n_isinstance (by decide +kernel) (pa_cons (pv 3) (pa_cons (pe_ty (n := "bool") rfl T.n_bool (by decide +kernel)) pa_nil)))) (pw_or1 (pt_not (pt_chain op_le op_lt pe_int (pv 3) (pe_callB c_lenL rfl T.n_len (by decide +kernel) (pa_cons (pv 0) pa_nil)))))))) (pss_one (ps_ret pe_bl)) pss_nil)))
  (pss_one (ps_ret (pe_and (pe_cmpR (op_eqD hr.units) (pe_callTy c_listL rfl T.n_list (by decide +kernel) (pa_cons (pv 2) pa_nil)) (pe_callB (cr_sortedSet rfl) rfl T.n_sorted (by decide +kernel) (pa_cons (pe_callTy (c_setTI rfl) rfl T.n_set (by decide +kernel) (pa_cons (pv 2) pa_nil)) pa_nil)) (nomark _)) (pe_one (pe_c (ok_law_too_many T) hr (by decide) rfl (pa_cons (pv 0) (pa_cons (pv 1) (pa_cons (pv 2) pa_nil)))))))))), ?_⟩
    obtain ⟨cs, ec1, ec2, ec3⟩ := hc.ex
    have hcl : cs.length = rows.length := by rw [← ec2, List.length_map]
    cases tv with
    | none =>
      obtain ⟨nt, ty, hk⟩ := hth
      refine ⟨_, rfl, _, _, _, _, false, rfl, .ty _, ty, kit_ty hk, false, rfl, ?_⟩
      exact k H (Sub.refl _)
    | some vs =>
      obtain ⟨⟨p, rfl, ep⟩, hkv, hl60⟩ := hth
      refine ⟨_, rfl, _, _, _, _, true, rfl, .ty _, .base (.tup ep), kit_ty (by decide +kernel), true, rfl, ?_⟩
      refine rd_ite (fun e => by cases e) (fun _ => ?_)
      refine ⟨_, rfl, p, rfl, ⟨_, SqT.of ep⟩, ?_⟩
      have ep' : H p = some (.tup (vs.map id)) := by rw [List.map_id]; exact ep
      letI : Inhabited V := ⟨.non⟩
      refine for_it (walkT (K := K) (a := p) (data := vs) (f := id)) (fun i σ H' => ∃ o3, σ = [some (.ref F), some (.ref r), some (.ref p), o3] ∧ H' = H ∧ (vs.take i).all (inR rows.length) = true)
        ⟨none, rfl, rfl, rfl⟩ (fun i σ H' _ ⟨_, _, e, _⟩ => by rw [e]; exact SqT.of ep') ?_ (fun σ H' ⟨o3, h1, h2, h3⟩ => ?_)
      · rintro i x σ H2 H3 hi ⟨o3, rfl, rfl, hall⟩ ⟨rfl, ex⟩
        obtain rfl : x = vs[i] := Eq.trans (b := id (vs.getD i default)) ex (get_D (f := id) hi)
        have hm : vs[i] ∈ vs := List.getElem_mem hi
        have tk := take_get hi
        have bad : inR rows.length vs[i] = false → natsOf rows.length vs = none := fun hb => by
          unfold natsOf
          rw [if_neg]
          intro z
          have := (List.all_eq_true.mp z) _ hm
          rw [hb] at this
          cases this
        have bad2 : inR rows.length vs[i] = false → Q (.bl false) H3 := fun hb => by
          have := k H3 (Sub.refl _)
          rw [crowdB_none (bad hb)] at this
          exact this
        generalize vs[i] = y at hm tk bad bad2 ⊢
        clear bad
        rcases hkv y hm with ⟨z, rfl⟩ | ⟨b, rfl⟩ | ⟨n, ty, hn⟩
        · refine ⟨_, rfl, _, _, _, _, true, rfl, .ty _, .base (.int z), kit_ty (by decide +kernel), true, rfl, ?_⟩
          refine rd_ite (fun e => by cases e) (fun _ => ?_)
          refine ⟨_, rfl, _, _, _, _, false, rfl, .ty _, .base (.int z), kit_ty (by decide +kernel), false, rfl, ?_⟩
          refine rd_ite (fun e => by cases e) (fun _ => ?_)
          refine ⟨_, rfl, _, _, rfl, rfl, _, rfl, ?_⟩
          refine rd_ite (fun h0 => ?_) (fun h0 => ?_)
          · refine ⟨_, rfl, F, _, rfl, .inl (SqL.of ec1), _, _, rfl, rfl, _, rfl, ?_⟩
            rw [List.length_map, hcl]
            refine rd_ite (fun h1 => bad2 ?_) (fun h1 => ⟨_, rfl, rfl, ?_⟩)
            · show (decide ((0 : Int) ≤ z) && decide (z < rows.length)) = false
              rw [h0, Bool.true_and]
              simpa using h1
            · rw [tk, List.all_append, hall]
              show (true && ((decide ((0 : Int) ≤ z) && decide (z < rows.length)) && true)) = true
              rw [h0]
              simpa using h1
          · refine ⟨_, rfl, ?_⟩
            refine rd_ite (fun _ => bad2 ?_) (fun e => by cases e)
            show (decide ((0 : Int) ≤ z) && _) = false
            rw [h0]
            rfl
        · refine ⟨_, rfl, _, _, _, _, true, rfl, .ty _, .base (.bl b), kit_ty (by decide +kernel), true, rfl, ?_⟩
          refine rd_ite (fun e => by cases e) (fun _ => ?_)
          refine ⟨_, rfl, _, _, _, _, true, rfl, .ty _, .base (.bl b), kit_ty (by decide +kernel), true, rfl, ?_⟩
          refine rd_ite (fun _ => bad2 rfl) (fun e => by cases e)
        · refine ⟨_, rfl, _, _, _, _, false, rfl, .ty _, ty, kit_ty hn, false, rfl, ?_⟩
          refine rd_ite (fun _ => bad2 ?_) (fun e => by cases e)
          show (geV 0 y && _) = false
          rw [geV_other ty hn]
          rfl
      · subst h1 h2
        rw [List.take_length] at h3
        have hS : natsOf rows.length vs = some (vs.map natV) := by
          unfold natsOf
          rw [if_pos h3]
        generalize hSn : vs.map natV = S at hS
        obtain ⟨hvs, hlt⟩ := natsOf_some hS
        have hres := crowdB_some (U := places lg) (room := room) (c := costOf rows) hS
        rw [hres] at k
        clear hres hS h3 hkv ep' hSn
        subst hvs
        rw [List.length_map] at hl60
        have epi : H' p = some (.tup ((S.map fun i : Nat => (i : Int)).map V.int)) := by rw [ep, List.map_map]; rfl
        refine ⟨_, rfl, p, _, rfl, .inr (SqT.of epi), fun L n3 => ?_⟩
        have s23 : Sub H' (upd H' L (.lst ((S.map fun i : Nat => (i : Int)).map V.int))) := Sub.new n3
        have e3 : (upd H' L (.lst ((S.map fun i : Nat => (i : Int)).map V.int))) L = some (.lst ((S.map fun i : Nat => (i : Int)).map V.int)) := upd_same
        generalize upd H' L (.lst ((S.map fun i : Nat => (i : Int)).map V.int)) = H3 at s23 e3 ⊢
        refine ⟨_, rfl, p, S.map fun i : Nat => (i : Int), rfl, SqT.of (s23 _ _ epi), by rw [List.length_map]; exact hl60, fun Z c n4 hc4 => ?_⟩
        have s34 : Sub H3 (upd H3 Z (SetO w Z (fun j => decide (j ∈ S.map fun i : Nat => (i : Int))) c)) := Sub.new n4
        have e4 : (upd H3 Z (SetO w Z (fun j => decide (j ∈ S.map fun i : Nat => (i : Int))) c)) Z = some (SetO w Z (fun j => decide (j ∈ S.map fun i : Nat => (i : Int))) c) := upd_same
        refine ⟨Z, _, c, rfl, e4, by rw [List.length_map] at hc4; omega, fun ns L2' hpw hmem _ n5 => ?_⟩
        have s45 : Sub (upd H3 Z (SetO w Z (fun j => decide (j ∈ S.map fun i : Nat => (i : Int))) c)) (upd (upd H3 Z (SetO w Z (fun j => decide (j ∈ S.map fun i : Nat => (i : Int))) c)) L2' (.lst (ns.map V.int))) := Sub.new n5
        have e5 : (upd (upd H3 Z (SetO w Z (fun j => decide (j ∈ S.map fun i : Nat => (i : Int))) c)) L2' (.lst (ns.map V.int))) L2' = some (.lst (ns.map V.int)) := upd_same
        have s25 := (s23.trans s34).trans s45
        refine eqD_ints (SqL.of (s45 _ _ (s34 _ _ e3))) (SqL.of e5) ⟨_, rfl, ?_⟩
        rw [set_sorted hpw hmem]
        refine rd_ite (fun hb => ?_) (fun hb => ?_)
        · rw [hb, Bool.true_and] at k
          exact ⟨_, rfl, _, rfl, _, rfl, F, r, p, rows, lg, room, S, rfl, s25.costs hc, s25.f er, tg, s25 _ _ ep, hlt, hl60, fun H6 s6 => k H6 (s25.trans s6)⟩
        · have : decide (Asc S) = false := by simpa using hb
          rw [this, Bool.false_and] at k
          exact k _ s25
end
end K31
set_option Elab.async false
set_option linter.all false
set_option maxRecDepth 100000
set_option maxHeartbeats 4000000
namespace K31
open PySem PySem.Spec PyProof.Rows L2 He
open C8 (Cal Met Mak pe_c pe_mk pe_mt pe_mt0 pe_gc)
theorem msk_upd {d l a : Addr} {H : Hp} {o : HO} (h1 : a ≠ d) (h2 : a ≠ l) : msk d l (upd H a o) = upd (msk d l H) a o := funext fun b => by
  by_cases hb : b = a
  · subst hb
    rw [msk_at h1 h2, upd_same, upd_same]
  · rw [upd_ne hb]
    unfold msk
    rw [upd_ne hb]
theorem msk_none {d l a : Addr} {H : Hp} (h : H a = none) : msk d l H a = none := by
  unfold msk
  split
  · rfl
  · exact h
theorem lts_add {H : Hp} {F a : Addr} {ps : Pins} {t : Told} (h : LToldsL H F ps) (ha : LTold H a t) (ok : t.ok) : LToldsL (upd H F (.lst (ps.map (fun e => V.ref e.1) ++ [.ref a]))) F (ps ++ [(a, t)]) := by
  have ne : ∀ {b : Addr} {u : Told}, LTold H b u → b ≠ F := fun hb z => by
    have hb : H _ = some _ := hb
    rw [z, h.at_] at hb
    cases hb
  refine ⟨by rw [upd_same, List.map_append]; rfl, fun e he => ?_⟩
  rcases List.mem_append.mp he with he | he
  · exact ⟨(upd_ne (ne (h.each e he).1)).trans (h.each e he).1, (h.each e he).2⟩
  · rw [List.mem_singleton.mp he]
    exact ⟨(upd_ne (ne ha)).trans ha, ok⟩
def words4 : List Str := ["must", "never", "never", "stay"]
/-- a word, a user, a flag: what is told -/
theorem told_cases {w : Str} (h : w = "must" ∨ w = "never" ∨ w = "stay") (u : Nat) (x : Str) : ∃ t : Told, t.who = u ∧ ((w = "stay" ∧ ldV t = [.str w, .int (u : Nat)] ∧ t.ok) ∨ (w ≠ "stay" ∧ ldV t = [.str w, .int (u : Nat), .str x] ∧ (PyData.strOk x = true → t.ok))) := by
  rcases h with rfl | rfl | rfl
  · exact ⟨.must u x, rfl, .inr ⟨by decide, rfl, id⟩⟩
  · exact ⟨.never u x, rfl, .inr ⟨by decide, rfl, id⟩⟩
  · exact ⟨.stay u, rfl, .inl ⟨rfl, rfl, True.intro⟩⟩
section
variable {P : Program} {w : World} {K : PySem.W.Frag} {mg : Str → Option Value} {base : Heap}
/-- (word, who) if word == 'stay' else (word, who, one), appended -/
theorem rd_told {d l sm F : Addr} {T : Nat} {H0 H : Hp} {ps : Pins} {wd : Str} {u : Nat} {x : Str} {Q : VK} (hw : wd = "must" ∨ wd = "never" ∨ wd = "stay") (hx : PyData.strOk x = true) (hD : DrawAt H d l sm T) (F1 : F ≠ d) (F2 : F ≠ l) (F3 : sm ≠ F) (hl : ps.length ≤ 100) (h : LToldsL (msk d l H) F ps) (nF : H0 F = none) (s0 : SubE d l H0 H)
    (q : ∀ (H' : Hp) (a : Addr) (t : Told), SubE d l H0 H' → (∀ b o, b ≠ F → H b = some o → H' b = some o) → t.who = u → DrawAt H' d l sm T → LToldsL (msk d l H') F (ps ++ [(a, t)]) → Q .non H') :
    (if decide (V.str wd = V.str "stay") = true then ∀ a, H a = none → rAppend (.ref F) [.ref a] (upd H a (.tup [.str wd, .int (u : Nat)])) Q else ∀ a, H a = none → rAppend (.ref F) [.ref a] (upd H a (.tup [.str wd, .int (u : Nat), .str x])) Q) := by
  obtain ⟨t, ht, hc⟩ := told_cases hw u x
  have fin : ∀ a, H a = none → t.ok → rAppend (.ref F) [.ref a] (upd H a (.tup (ldV t))) Q := fun a na ok => by
    have sa : Sub H (upd H a (.tup (ldV t))) := Sub.new na
    have Fa : F ≠ a := fun z => by
      have := msk_sub _ _ h.at_
      rw [z, na] at this
      cases this
    have e1 := sa _ _ (msk_sub _ _ h.at_)
    obtain ⟨a1, a2⟩ := hD.new na
    refine ⟨F, _, .ref a, rfl, rfl, e1, szl (by rw [List.length_map]; omega), ?_⟩
    refine q _ a t (fun b o n1 n2 e => ?_) (fun b o n e => (upd_ne n).trans (sa _ _ e)) ht ((hD.sub sa).put F1 F2 F3) ?_
    · rw [upd_ne (ne_of_none e nF)]
      exact sa _ _ (s0 _ _ n1 n2 e)
    · rw [msk_upd F1 F2, msk_upd a1 a2]
      exact lts_add ((Sub.new (msk_none na)).lts h) upd_same ok
  rcases hc with ⟨h1, h2, h3⟩ | ⟨h1, h2, h3⟩
  · subst h1
    refine rd_ite (fun _ a na => ?_) (fun z => absurd z (by decide))
    rw [← h2]
    exact fin a na h3
  · refine rd_ite (fun z => absurd (V.str.inj (of_decide_eq_true z)) h1) (fun _ a na => ?_)
    rw [← h2]
    exact fin a na (h3 hx)
/-! ### _law_tolds -/
def sp_law_tolds (K : PySem.W.Frag) : Sp := fun vs H Q _ => ∃ (d l sm : Addr) (T : Nat) (a : Addr) (ns : List Str) (n m : Nat), vs = [.ref d, .ref a, .int (n : Int), .int (m : Int)] ∧ DrawAt H d l sm T ∧ T ≤ 800000000 ∧ msk d l H a = some (.lst (ns.map V.str)) ∧ 1 ≤ ns.length ∧ ns.length ≤ 6 ∧ (∀ x ∈ ns, NameOk x) ∧ 1 ≤ n ∧ n ≤ 60 ∧ m ≤ 5 ∧
  ∀ (q : Addr) (H' : Hp) (ps : Pins), H q = none → SubE d l H H' → DrawAt H' d l sm (T + 1 + m * 4) → LToldsL (msk d l H') q ps → ps.length ≤ m → (∀ e ∈ ps, e.2.who < n) → Q (.ref q) H'
abbrev n_law_tolds : List Str := ["_law_draw", "_law_names_here", "_law_total", "_law_most", "_law_found_here", "_law_turn", "_law_word", "_law_who", "_law_one"]
theorem sc_law_tolds : FnScope n_law_tolds ["_law_draw", "_law_names_here", "_law_total", "_law_most"] (defScope s_law_tolds) := ⟨rfl, rfl, rfl, by decide +kernel, rfl, by decide +kernel, by decide +kernel⟩
theorem ok_law_tolds (T : Txt K mg) : Cal P w K mg base 3 "_law_tolds" (sp_law_tolds K) [] := by
  refine cal_of T.f__law_tolds T.g__law_tolds sc_law_tolds (fun vs H Q E h => ?_) (fun _ _ _ _ _ _ us hl => match us, hl with | [_, _, _, _], _ => rfl) (fun f0 cdv A outer s0 H vs Q E hr h => ?_)
  · obtain ⟨d, l, sm, t, a, ns, n, m, rfl, _⟩ := h
    rfl
  · obtain ⟨d, l, sm, T0, a, ns, n, m, rfl, hD, hT, ha, hn1, hn6, hok, h1, h60, hm5, k⟩ := h
    refine ⟨_, (pss_cons (ps_set (i := 4) sc_law_tolds.nd rfl (.inl rfl) (pe_lst pa_nil))
  (pss_cons (ps_for PassesOwn.never rfl (pi_range1 rfl T.n_range (pa_cons (pe_c (ok_law_take T) hr (by decide) rfl (pa_cons (pv 0) (pa_cons (pe_op op_add (pv 3) pe_int) pa_nil))) pa_nil)) (pg_name (i := 5) sc_law_tolds.nd rfl (.inl rfl))
  (pss_cons (ps_par (i := 6) (j := 7) rfl sc_law_tolds.nd rfl rfl (by decide) rfl rfl (pa_cons (pe_c (ok_law_pick T) hr (by decide) rfl (pa_cons (pv 0) (pa_cons (pe_lst (pa_cons pe_str (pa_cons pe_str (pa_cons pe_str (pa_cons pe_str pa_nil))))) pa_nil))) (pa_cons (pe_c (ok_law_take T) hr (by decide) rfl (pa_cons (pv 0) (pa_cons (pv 2) pa_nil))) pa_nil)) (by rfl))
  (pss_cons (ps_set (i := 8) sc_law_tolds.nd rfl (.inl rfl) (pe_c (ok_law_pick T) hr (by decide) rfl (pa_cons (pv 0) (pa_cons (pe_op op_cat (pv 1) (pe_op op_rep (pe_lst (pa_cons pe_str pa_nil)) (pe_callTy call_int1 rfl T.n_int (by decide +kernel) (pa_cons (pe_cmpR op_eq (pe_c (ok_law_take T) hr (by decide) rfl (pa_cons (pv 0) (pa_cons pe_int pa_nil))) pe_int (nomark _)) pa_nil)))) pa_nil))))
  (pss_one (ps_expr (pe_bm PySem.F.plainAttrs_list PySem.F.slot_list_append PySem.F.type_list_append mt_append (pv 4) (pa_cons (pe_ifExp (pt_cmpR op_eq (pv 6) pe_str (nomark _)) (pe_tup (pa_cons (pv 6) (pa_cons (pv 7) pa_nil))) (pe_tup (pa_cons (pv 6) (pa_cons (pv 7) (pa_cons (pv 8) pa_nil))))) pa_nil)))))))
  (pss_one (ps_ret (pv 4))))), ?_⟩
    refine ⟨by decide, fun F nF => ?_⟩
    have sF : Sub H (upd H F (.lst [])) := Sub.new nF
    obtain ⟨F1, F2⟩ := hD.new nF
    have F3 := hD.sm_ne nF
    refine ⟨_, rfl, _, rfl, _, _, rfl, rfl, ?_⟩
    refine ⟨d, l, sm, T0, (m : Int) + 1, rfl, hD.sub sF, by omega, by omega, by omega, fun r H1 hr1 s1 hD1 => ?_⟩
    have s01 := (sF.e (d := d) (l := l)).trans s1
    have eF1 : msk d l H1 F = some (.lst []) := by
      rw [msk_at F1 F2]
      exact s1 _ _ F1 F2 upd_same
    refine ⟨(r : Int), rfl, by omega, by omega, ?_⟩
    rw [show (r : Int).toNat = r by omega]
    have hrm : r ≤ m := by omega
    refine for_it walk_range (fun i σ H' => ∃ (o5 o6 o7 o8 : Option V) (ps : Pins), σ = [some (.ref d), some (.ref a), some (.int (n : Int)), some (.int (m : Int)), some (.ref F), o5, o6, o7, o8] ∧ SubE d l H H' ∧ DrawAt H' d l sm (T0 + 1 + i * 4) ∧ LToldsL (msk d l H') F ps ∧ ps.length = i ∧ ∀ e ∈ ps, e.2.who < n)
      ⟨_, _, _, _, [], rfl, s01, hD1, ⟨eF1, fun e he => by simp at he⟩, rfl, fun e he => by simp at he⟩ (fun _ _ _ _ _ => True.intro) ?_ (fun σ H' ⟨o5, o6, o7, o8, ps, g1, g2, g3, g4, g5, g6⟩ => ?_)
    · rintro i x σ H2 H3 hi ⟨o5, o6, o7, o8, ps, rfl, s2, hD2, hl2, hpl, hpw⟩ ⟨rfl, rfl⟩
      refine ⟨_, rfl, by decide, fun L nL => ?_⟩
      have sL : Sub H3 (upd H3 L (.lst (words4.map V.str))) := Sub.new nL
      have eL : (upd H3 L (.lst (words4.map V.str))) L = some (.lst (words4.map V.str)) := upd_same
      show sp_law_pick _ _ (upd H3 L (.lst (words4.map V.str))) _ C8.E0
      have hDL := hD2.sub sL
      obtain ⟨L1, L2'⟩ := hD2.new nL
      have s2L := s2.trans (sL.e (d := d) (l := l))
      have hlL := (sL.e (d := d) (l := l)).m.lts hl2
      generalize upd H3 L (.lst (words4.map V.str)) = H4 at sL eL hDL s2L hlL ⊢
      clear sL nL hD2 hl2 s2
      refine ⟨d, l, sm, _, .ref L, words4.map V.str, rfl, hDL, by omega, .inl ⟨L, rfl, .inl (SqL.of (by rw [msk_at L1 L2']; exact eL))⟩, by decide, by decide, fun y H5 hy s5 hD5 => ?_⟩
      obtain ⟨wd, hw, rfl⟩ := List.mem_map.mp hy
      have hw3 : wd = "must" ∨ wd = "never" ∨ wd = "stay" := by
        rcases List.mem_cons.mp hw with rfl | hw
        · exact .inl rfl
        rcases List.mem_cons.mp hw with rfl | hw
        · exact .inr (.inl rfl)
        rcases List.mem_cons.mp hw with rfl | hw
        · exact .inr (.inl rfl)
        · rw [List.mem_singleton.mp hw]; exact .inr (.inr rfl)
      refine ⟨_, rfl, _, rfl, d, l, sm, _, (n : Int), rfl, hD5, by omega, by omega, by omega, fun u H6 hu6 s6 hD6 => ?_⟩
      refine ⟨_, _, rfl, ?_⟩
      have s26 := (s2L.trans s5).trans s6
      have hl6 := (s5.trans s6).m.lts hlL
      clear hlL s2L s5 s6 hD5 hDL hy hw
      have ha6 : H6 a = some (.lst (ns.map V.str)) := msk_sub _ _ (s26.m _ _ ha)
      refine ⟨_, rfl, _, rfl, by decide, fun B nB => ?_⟩
      have sB : Sub H6 (upd H6 B (.lst [.str "none"])) := Sub.new nB
      refine ⟨_, rfl, d, l, sm, _, 8, rfl, hD6.sub sB, by omega, by decide, by decide, fun r8 H7 hr7 s7 hD7 => ?_⟩
      obtain ⟨B1, B2⟩ := hD6.new nB
      have eB7 : H7 B = some (.lst [.str "none"]) := s7 _ _ B1 B2 upd_same
      have s67 := (sB.e (d := d) (l := l)).trans s7
      have s27 := s26.trans s67
      have hl7 := s67.m.lts hl6
      have ha7 : H7 a = some (.lst (ns.map V.str)) := msk_sub _ _ (s27.m _ _ ha)
      clear sB nB s7 s67 hl6 s26 ha6 hD6
      refine ⟨rfl, .inr ⟨_, rfl, ?_⟩⟩
      have hrep : ∃ c : Nat, (if decide (V.int (r8 : Int) = V.int 0) = true then (1 : Int) else 0) = (c : Int) ∧ c ≤ 1 := by
        split
        · exact ⟨1, rfl, Nat.le_refl _⟩
        · exact ⟨0, rfl, by decide⟩
      obtain ⟨c, hc1, hc2⟩ := hrep
      refine ⟨B, (c : Int), [.str "none"], rfl, by rw [hc1], eB7, by omega, by omega, sz (by simp; omega), fun C nC => ?_⟩
      have hC : (List.replicate (c : Int).toNat [V.str "none"]).flatten = (List.replicate c ("none" : Str)).map V.str := by
        rw [show (c : Int).toNat = c by omega]
        match c, hc2 with
        | 0, _ => rfl
        | 1, _ => rfl
      rw [hC]
      have sC : Sub H7 (upd H7 C (.lst ((List.replicate c ("none" : Str)).map V.str))) := Sub.new nC
      have eC : (upd H7 C (.lst ((List.replicate c ("none" : Str)).map V.str))) C = some (.lst ((List.replicate c ("none" : Str)).map V.str)) := upd_same
      have hD8 := hD7.sub sC
      generalize upd H7 C (.lst ((List.replicate c ("none" : Str)).map V.str)) = H8 at sC eC hD8 ⊢
      refine ⟨a, C, _, _, rfl, rfl, sC _ _ ha7, eC, sz (by simp; omega), fun D nD => ?_⟩
      rw [← List.map_append]
      have sD : Sub H8 (upd H8 D (.lst ((ns ++ List.replicate c ("none" : Str)).map V.str))) := Sub.new nD
      have eD : (upd H8 D (.lst ((ns ++ List.replicate c ("none" : Str)).map V.str))) D = some (.lst ((ns ++ List.replicate c ("none" : Str)).map V.str)) := upd_same
      obtain ⟨D1, D2⟩ := hD8.new nD
      have hD9 := hD8.sub sD
      have sCD := ((sC.trans sD).e (d := d) (l := l))
      generalize upd H8 D (.lst ((ns ++ List.replicate c ("none" : Str)).map V.str)) = H9 at sCD eD hD9 ⊢
      have s29 := s27.trans sCD
      have hl9 := sCD.m.lts hl7
      clear sC eC nC sD nD hD8 sCD hl7 s27 eB7 ha7 hD7
      refine ⟨d, l, sm, _, .ref D, _, rfl, hD9, by omega, .inl ⟨D, rfl, .inl (SqL.of (by rw [msk_at D1 D2]; exact eD))⟩, by rw [List.length_map, List.length_append]; omega, by rw [List.length_map, List.length_append, List.length_replicate]; omega, fun y H10 hy s10 hD10 => ?_⟩
      obtain ⟨x, hx, rfl⟩ := List.mem_map.mp hy
      have hxo : PyData.strOk x = true := by
        rcases List.mem_append.mp hx with hx | hx
        · exact (hok x hx).str
        · rw [(List.mem_replicate.mp hx).2]
          decide +kernel
      have s210 := s29.trans s10
      have hl10 := s10.m.lts hl9
      refine ⟨_, rfl, .inl ⟨rfl, _, SqL.of (msk_sub _ _ hl10.at_)⟩, _, rfl, rfl, _, rfl, ?_⟩
      have := rd_told (Q := fun v H' => ∃ (o5 o6 o7 o8 : Option V) (ps' : Pins), [some (V.ref d), some (.ref a), some (.int (n : Int)), some (.int (m : Int)), some (.ref F), some (.int (0 + (i : Int))), some (.str wd), some (.int (u : Nat)), some (.str x)] = [some (.ref d), some (.ref a), some (.int (n : Int)), some (.int (m : Int)), some (.ref F), o5, o6, o7, o8] ∧ SubE d l H H' ∧ DrawAt H' d l sm (T0 + 1 + (i + 1) * 4) ∧ LToldsL (msk d l H') F ps' ∧ ps'.length = i + 1 ∧ ∀ e ∈ ps', e.2.who < n)
        (u := u) hw3 hxo (hD10.le (T' := T0 + 1 + (i + 1) * 4) (by omega)) F1 F2 F3 (by omega) hl10 nF s210 (fun H' b t g1 _ g2 g3 g4 => ⟨_, _, _, _, ps ++ [(b, t)], rfl, g1, g3, g4, by rw [List.length_append, hpl]; rfl, fun e he => ?_⟩)
      · refine rd_ite (fun h => ?_) (fun h => ?_)
        · rw [if_pos h] at this
          exact ⟨_, rfl, _, rfl, sz (by simp), this⟩
        · rw [if_neg (by rw [h]; decide)] at this
          exact ⟨_, rfl, _, rfl, _, rfl, sz (by simp), this⟩
      · rcases List.mem_append.mp he with he | he
        · exact hpw e he
        · rw [List.mem_singleton.mp he]
          show t.who < n
          rw [g2]
          omega
    · subst g1
      exact ⟨_, rfl, k F H' ps nF g2 (g3.le (by have := Nat.mul_le_mul_right 4 hrm; omega)) g4 (by omega) g6⟩
end
end K31
set_option Elab.async false
set_option linter.all false
set_option maxRecDepth 100000
set_option maxHeartbeats 4000000
/-! t[::-1] of a tuple -/
namespace HT
open PySem PySem.Spec PySem.Calls PyProof PyProof.Rows
section
variable {prog : Program} {w : World} {A : Around} {E : Value → Shared → Prop} {s : Shared}
theorem fm_congr {α β : Type} {f g : α → Option β} : ∀ {l : List α}, (∀ x ∈ l, f x = g x) → l.filterMap f = l.filterMap g
  | [], _ => rfl
  | a :: l, h => by
    rw [List.filterMap_cons, List.filterMap_cons, h a (List.mem_cons_self ..), fm_congr fun x hx => h x (List.mem_cons_of_mem _ hx)]
theorem places_rev (n : Nat) : Builtin.Slice.slicePlaces ((n : Int) - 1) (-1) (-1) = n := by
  unfold Builtin.Slice.slicePlaces
  have h1 : ¬ ((-1 : Int) > 0) := by decide
  simp only [h1, if_false]
  by_cases h : (n : Int) - 1 > -1
  · simp only [h, if_true]
    have : ((n : Int) - 1 - -1 - 1) / (- -1) + 1 = (n : Int) := by
      rw [show (- -1 : Int) = 1 by decide, Int.ediv_one]
      omega
    rw [this]
    omega
  · simp only [h, if_false]
    omega
theorem pick_rev (xs : Array Value) : ((List.range xs.size).filterMap fun (m : Nat) => xs[((xs.size : Int) - 1 + (m : Int) * -1).toNat]?).toArray = xs.toList.reverse.toArray := by
  congr 1
  have h : (List.range xs.size).filterMap (fun (m : Nat) => xs[((xs.size : Int) - 1 + (m : Int) * -1).toNat]?) = ((List.range xs.size).map fun k => xs.size - 1 - k).filterMap (xs[·]?) := by
    rw [List.filterMap_map]
    refine fm_congr fun m hm => ?_
    have := List.mem_range.mp hm
    show xs[_]? = xs[xs.size - 1 - m]?
    have e : ((xs.size : Int) - 1 + (m : Int) * -1).toNat = xs.size - 1 - m := by omega
    rw [e]
  rw [h, PySem.W.krv_range, List.filterMap_reverse, PySem.W.krv_all]
theorem getItem_tuple_rev {t sl : Addr} {items : Array Value} {u : Tok} {Q : Value → Shared → Prop} (ht : IsTup s.heap t items) (hs : s.heap.IsSliceOf sl .none .none (.int (-1) u))
    (h : Q (.ref s.heap.objs.size) { s with heap := s.heap.push { cls := .type "tuple", data := .seq items.toList.reverse.toArray } })
    (hsz : items.size ≤ sizeLine) : wpAny (model prog w) A (getItem (.ref t) (.ref sl)) Q E s := by
  have htake : sizeOk (.seq items.toList.reverse.toArray) := by
    show items.toList.reverse.toArray.size ≤ sizeLine
    rw [List.size_toArray, List.length_reverse, Array.length_toList]
    exact hsz
  obtain ⟨os, hos, hcs, hds⟩ := id hs
  have hTs : s.TypeIs (.ref sl) "slice" := ⟨os, hos, hcs⟩
  unfold getItem
  try with_reducible refine wpAny_holding ?_
  first | refine wpAny_bind (wpAny_pure ?_) | skip
  refine wpAny_bind (wpAny_sequenceKey ht.typeIs (by decide) ?_)
  refine wpAny_bind (wpAny_callSpecial?_slot (name := Str.ofString "__getitem__") ht.typeIs PyProof.Rows.slot_tuple_getitem
    (wpAny_call_entry PyProof.Rows.slot_tuple_getitem ht.typeIs entry_tuple_getitem ?_ (args_tuple_getitem _ _)))
  show wpAny _ _ (Builtin.Tuple.tupleItemsOf (.ref t) >>= _) _ _ s
  refine wpAny_bind (tupleItemsOf_ ht ?_)
  refine wpAny_bind (wpAny_typeOf hTs ?_)
  rw [if_pos (by decide)]
  have happ : ∀ {A : Around} {Q : Int × Int × Nat → Shared → Prop} {E}, Q (((items.size : Int) - 1), -1, items.size) s → wpAny (model prog w) A (Builtin.Slice.sliceApplied (.ref sl) (pure (items.size : Int))) Q E s := fun {A Q E} h => by
    unfold Builtin.Slice.sliceApplied Builtin.Slice.sliceFields
    refine wpAny_bind (wpAny_bind (wpAny_field hos hds (x := .none) rfl (wpAny_bind (wpAny_field hos hds (x := .none) rfl (wpAny_bind (wpAny_field hos hds (x := .int (-1) u) rfl (wpAny_pure ?_)))))))
    refine wpAny_bind (slicePart_int ?_)
    show wpAny _ _ (if ((-1 : Int) == 0) = true then _ else _) _ _ s
    rw [if_neg (by decide)]
    refine wpAny_bind (slicePart_none (wpAny_bind (slicePart_none (wpAny_bind (wpAny_pure ?_)))))
    show wpAny _ _ (pure ((items.size : Int) - 1, (-1 : Int), Builtin.Slice.slicePlaces ((items.size : Int) - 1) (-1) (-1))) _ _ s
    rw [places_rev]
    exact wpAny_pure h
  refine wpAny_bind (happ ?_)
  have hno : ¬ ((((items.size : Int) - 1) == 0 && (-1 : Int) == 1 && items.size == items.size) = true) := by
    rw [show ((-1 : Int) == 1) = false by decide, Bool.and_false, Bool.false_and]
    exact Bool.false_ne_true
  show wpAny _ _ (if (((items.size : Int) - 1) == 0 && (-1 : Int) == 1 && items.size == items.size) = true then _ else _) _ _ s
  rw [if_neg hno, pick_rev]
  first
    | exact wpAny_bind (m := Builtin.Tuple.tupleExact _) (wpAny_newObj_type (wpAny_pure ⟨_, rfl, wpAny_pure h⟩) htake)
    | exact wpAny_bind (m := Builtin.Tuple.tupleExact _) (wpAny_newObj_type (wpAny_bind (wpAny_pure (wpAny_pure ⟨_, rfl, wpAny_pure h⟩))) htake)
    | exact wpAny_bind (wpAny_bind (m := Builtin.Tuple.tupleExact _) (wpAny_newObj_type (wpAny_pure (wpAny_pure ⟨_, rfl, wpAny_pure h⟩)) htake))
    | exact wpAny_bind (wpAny_bind (m := Builtin.Tuple.tupleExact _) (wpAny_newObj_type (wpAny_pure ⟨_, rfl, wpAny_pure h⟩) htake))
end
end HT
namespace K31
open PySem PySem.Spec PyProof.Rows L2 He
section
variable {X : Cx}
def tRevT (K : PySem.W.Frag) (te : TE) : TE := fun σ H Q => te σ H fun x H1 => ∃ a xs, x = .ref a ∧ SqT K H1 a xs ∧ ∀ p, H1 p = none → Q (.ref p) (upd H1 p (.tup xs.reverse))
theorem pe_revT {e : Expr} {te : TE} {k : Nat} {p1 p2 p3 pos : Pos} (he : PE X e te) : PE X (.Subscript e (.Slice none none (some (.UnaryOp .USub (.Constant (.int 1) k p1) p2)) p3) pos) (tRevT X.K te) := by
  refine ⟨fun pins s σ H Q I h => ?_⟩
  refine Subscript_ (thn (he.run pins s σ H _ I h) fun v s1 ⟨x, H1, I1, r1, q1⟩ => ?_)
  obtain ⟨a, xs, ex, hx, q⟩ := q1
  subst ex
  cases r1
  have hst : PO X (some (.UnaryOp .USub (.Constant (.int 1) k p1) p2)) (tPart (tUn (rU fun i => .int (-i)) (tC (.int 1)))) := po_some (pe_un un_neg pe_int)
  refine wpAny_Slice (thn (po_none.run pins s1 σ H1 (fun o H2 => o = none ∧ H2 = H1) I1 ⟨rfl, rfl⟩) fun vl s2 ⟨l, H2, I2, pl, el, e2⟩ => ?_)
  subst el e2
  refine thn (po_none.run pins s2 σ H2 (fun o H3 => o = none ∧ H3 = H2) I2 ⟨rfl, rfl⟩) fun vu s3 ⟨u, H3, I3, pu, eu, e3⟩ => ?_
  subst eu e3
  refine thn (hst.run pins s3 σ H3 (fun o H4 => o = some (-1) ∧ H4 = H3) I3 ⟨1, rfl, -1, rfl, rfl, rfl⟩) fun vs s4 ⟨o, H4, I4, ps, eo, e4⟩ => ?_
  subst eo e4
  cases pl
  cases pu
  cases ps with
  | int _ tk =>
  have I5 : Inv X pins σ H4 { s4 with heap := s4.heap.push { cls := .type "slice", data := .fields #[Value.none, Value.none, .int (-1) tk] } } := I4.kept (t' := s4.toks) fun b ob q => Heap.get?_push_of_some _ q
  obtain ⟨its, r, ht, hz⟩ := I5.tuple hx
  have hlen := r.length
  show wpAny (model X.prog X.w) X.A (subscriptTail e (.Slice none none (some (.UnaryOp .USub (.Constant (.int 1) k p1) p2)) p3) (.ref a) (.ref s4.heap.objs.size)) (EP X pins σ Q) X.xe { s4 with heap := s4.heap.push { cls := .type "slice", data := .fields #[Value.none, Value.none, .int (-1) tk] } }
  refine tail_any (ops := [.ref a, .ref s4.heap.objs.size]) ht.typeIs (PyProof.Rows.slot_tuple_getitem.lookup) ?_ (by with_unfolding_all rfl)
  refine HT.getItem_tuple_rev ht (Heap.IsSliceOf.new _ Value.none Value.none (.int (-1) tk)) ?_ (by rw [List.size_toArray]; omega)
  refine ⟨.ref _, _, I5.laid (t' := s4.toks) (o := .tup xs.reverse) (fun b ob q => Heap.get?_push_of_some _ q) (Nat.le_refl _) ?_, rfl, q _ (I5.hok.fresh (Nat.le_refl _))⟩
  exact ⟨by rw [List.length_reverse]; exact hz, its.reverse, r.reverse, ⟨_, Heap.get?_push_size _ rfl, rfl, _, rfl⟩⟩
end
end K31
set_option Elab.async false
set_option linter.all false
set_option maxRecDepth 100000
set_option maxHeartbeats 4000000
namespace K31
open PySem PySem.Spec PyProof.Rows L2 He
open C8 (Cal Met Mak pe_c pe_mk pe_mt pe_mt0 pe_gc)
section
variable {P : Program} {w : World} {K : PySem.W.Frag} {mg : Str → Option Value} {base : Heap}
theorem rd_slAh {σ : L2.St} {H : Hp} {a : Addr} {xs : List V} {lo : Option Int} {Q : VK} (ea : H a = some (.tup xs)) (q : ∀ p H', Sub H H' → H' p = some (.tup (cutV xs lo none)) → Q (.ref p) H') : tNoPart σ H fun u H3 => rSlA K (.ref a) lo u H3 Q := rd_slA ea q
/-- a thing that may be bent -/
def GoodT (K : PySem.W.Frag) (N : Nat) (H : Hp) (x : V) : Prop := ∃ tv, ThAt K H x tv ∧ ∀ ws, tv = some ws → ws.length ≤ N
theorem Sub.good {H H' : Hp} {N : Nat} {x : V} (s : Sub H H') (h : GoodT K N H x) : GoodT K N H' x := let ⟨tv, a, b⟩ := h; ⟨tv, s.th a, b⟩
theorem DrawAt.tup {H : Hp} {d l sm : Addr} {T : Nat} (h : DrawAt H d l sm T) {p : Addr} {ws : List V} (e : H p = some (.tup ws)) : msk d l H p = some (.tup ws) := by
  obtain ⟨a, b⟩ := h.ne e (fun _ z => nomatch z) (fun _ z => nomatch z)
  rw [msk_at a b]
  exact e
theorem good_tup {H : Hp} {d l sm : Addr} {T N : Nat} {p : Addr} {ws : List V} (h : DrawAt H d l sm T) (e : H p = some (.tup ws)) (hk : ∀ y ∈ ws, KindV K (msk d l H) y) (hl : ws.length ≤ N) (hN : N ≤ 60) : GoodT K N (msk d l H) (.ref p) :=
  ⟨some ws, ⟨⟨p, rfl, h.tup e⟩, hk, by omega⟩, fun ws' e' => by cases e'; exact hl⟩
theorem good_not {H : Hp} {N : Nat} {x : V} {n : String} (t : TyX K H x (.type n)) (h : kitB n "tuple" = some false) : GoodT K N H x := ⟨none, ⟨n, t, h⟩, fun _ z => nomatch z⟩
theorem kind_not {H : Hp} {x : V} {n : String} (t : TyX K H x (.type n)) (h : kitB n "int" = some false) : KindV K H x := .inr (.inr ⟨n, t, h⟩)
/-! ### _law_bent -/
def sp_law_bent (K : PySem.W.Frag) : Sp := fun vs H Q _ => ∃ (d l sm : Addr) (T : Nat) (p : Addr) (ws : List V) (n : Nat), vs = [.ref d, .ref p, .int (n : Int)] ∧ DrawAt H d l sm T ∧ T ≤ 800000000 ∧ H p = some (.tup ws) ∧ (∀ y ∈ ws, KindV K (msk d l H) y) ∧ ws.length ≤ 29 ∧ n ≤ 60 ∧
  ∀ (y : V) (H' : Hp), SubE d l H H' → DrawAt H' d l sm (T + 4) → GoodT K (2 * ws.length + 1) (msk d l H') y → Q y H'
abbrev n_law_bent : List Str := ["_law_draw", "_law_thing", "_law_total", "_law_at", "_law_who", "_law_odd", "_law_some"]
theorem sc_law_bent : FnScope n_law_bent ["_law_draw", "_law_thing", "_law_total"] (defScope s_law_bent) := ⟨rfl, rfl, rfl, by decide +kernel, rfl, by decide +kernel, by decide +kernel⟩
theorem ok_law_bent (T : Txt K mg) : Cal P w K mg base 3 "_law_bent" (sp_law_bent K) [] := by
  refine cal_of T.f__law_bent T.g__law_bent sc_law_bent (fun vs H Q E h => ?_) (fun _ _ _ _ _ _ us hl => match us, hl with | [_, _, _], _ => rfl) (fun f0 cdv A outer s0 H vs Q E hr h => ?_)
  · obtain ⟨d, l, sm, t, p, ws, n, rfl, _⟩ := h
    rfl
  · obtain ⟨d, l, sm, T0, p, ws, n, rfl, hD, hT, hp, hk, h29, hn, k⟩ := h
    refine ⟨_, (pss_cons (ps_par (i := 3) (j := 4) rfl sc_law_bent.nd rfl rfl (by decide) rfl rfl (pa_cons (pe_c (ok_law_take T) hr (by decide) rfl (pa_cons (pv 0) (pa_cons (pe_op op_add (pe_callB c_lenL rfl T.n_len (by decide +kernel) (pa_cons (pv 1) pa_nil)) pe_int) pa_nil))) (pa_cons (pe_c (ok_law_take T) hr (by decide) rfl (pa_cons (pv 0) (pa_cons (pe_op op_add (pv 2) pe_int) pa_nil))) pa_nil)) (by rfl))
  (pss_cons (ps_set (i := 5) sc_law_bent.nd rfl (.inl rfl) (pe_c (ok_law_pick T) hr (by decide) rfl (pa_cons (pv 0) (pa_cons (pe_lst (pa_cons (pv 4) (pa_cons (pv 4) (pa_cons pe_bl (pa_cons pe_non (pa_cons pe_str (pa_cons (pe_un un_neg pe_int) (pa_cons (pv 2) (pa_cons (pe_tup (pa_cons pe_int pa_nil)) (pa_cons (pe_lst pa_nil) (pa_cons (pe_op op_pow pe_int pe_int) pa_nil))))))))))) pa_nil))))
  (pss_cons (ps_set (i := 6) sc_law_bent.nd rfl (.inl rfl) (pe_lst (pa_cons (pe_op op_catA (pe_op op_catA (pe_slice sl_tupA (pv 1) po_none (po_some (pv 3))) (pe_tup (pa_cons (pv 5) pa_nil))) (pe_slice sl_tupA (pv 1) (po_some (pv 3)) po_none)) (pa_cons (pe_op op_catA (pe_op op_catA (pe_slice sl_tupA (pv 1) po_none (po_some (pv 3))) (pe_tup (pa_cons (pv 5) pa_nil))) (pe_slice sl_tupA (pv 1) (po_some (pe_op op_add (pv 3) pe_int)) po_none)) (pa_cons (pe_op op_catA (pe_slice sl_tupA (pv 1) po_none (po_some (pv 3))) (pe_slice sl_tupA (pv 1) (po_some (pe_op op_add (pv 3) pe_int)) po_none)) pa_nil)))))
  (pss_one (ps_ret (pe_c (ok_law_pick T) hr (by decide) rfl (pa_cons (pv 0) (pa_cons (pe_op op_cat (pe_op op_cat (pv 6) (pv 6)) (pe_lst (pa_cons (pe_revT (pv 1)) (pa_cons (pe_op op_catA (pv 1) (pv 1)) (pa_cons (pe_callTy c_listL rfl T.n_list (by decide +kernel) (pa_cons (pv 1) pa_nil)) (pa_cons (pe_tup pa_nil) (pa_cons pe_non (pa_cons pe_int (pa_cons pe_str (pa_cons pe_dnewK pa_nil)))))))))) pa_nil)))))))), ?_⟩
    refine ⟨_, rfl, _, rfl, p, ws, rfl, .inr (SqT.of hp), _, _, rfl, rfl, ?_⟩
    refine ⟨d, l, sm, T0, (ws.length : Int) + 1, rfl, hD, by omega, by omega, by omega, fun at_ H1 hat s1 hD1 => ?_⟩
    refine ⟨_, rfl, _, rfl, _, _, rfl, rfl, ?_⟩
    refine ⟨d, l, sm, _, (n : Int) + 1, rfl, hD1, by omega, by omega, by omega, fun who H2 hwho s2 hD2 => ?_⟩
    refine ⟨_, _, rfl, ?_⟩
    obtain ⟨p1, p2⟩ := hD.ne hp (fun _ z => nomatch z) (fun _ z => nomatch z)
    have s02 := s1.trans s2
    have hp2 := s02 _ _ p1 p2 hp
    have hk2 : ∀ y ∈ ws, KindV K (msk d l H2) y := fun y hy => s02.m.kind (hk y hy)
    clear s1 s2 hD1 hk
    refine ⟨_, rfl, _, rfl, _, rfl, ?_⟩
    refine ⟨_, rfl, _, rfl, sz (by simp), fun t0 nt0 => ?_⟩
    have st : Sub H2 (upd H2 t0 (.tup [.int 0])) := Sub.new nt0
    have et : (upd H2 t0 (.tup [.int 0])) t0 = some (.tup [.int 0]) := upd_same
    generalize upd H2 t0 (.tup [.int 0]) = H3 at st et ⊢
    refine ⟨by decide, fun e0 ne0 => ?_⟩
    have se : Sub H3 (upd H3 e0 (.lst [])) := Sub.new ne0
    have ee : (upd H3 e0 (.lst [])) e0 = some (.lst []) := upd_same
    have et2 := se _ _ et
    obtain ⟨e1, e2⟩ := (hD2.sub st).new ne0
    generalize upd H3 e0 (.lst []) = H4 at se ee et2 ⊢
    have s24 := st.trans se
    have hD4 := hD2.sub s24
    refine ⟨_, _, rfl, rfl, ⟨by decide, by decide, by decide⟩, ?_⟩
    refine ⟨sz (by simp), fun L nL => ?_⟩
    obtain ⟨L1, L2'⟩ := hD4.new nL
    refine ⟨d, l, sm, _, .ref L, _, rfl, hD4.sub (Sub.new nL), by omega, .inl ⟨L, rfl, .inl (SqL.of (by rw [msk_at L1 L2']; exact upd_same))⟩, by simp, by simp, fun odd H5 hy s5 hD5 => ?_⟩
    have s45 := ((Sub.new nL).e (d := d) (l := l)).trans s5
    have s25 := (s24.e (d := d) (l := l)).trans s45
    have et5 : msk d l H5 t0 = some (.tup [.int 0]) := s45.m _ _ (hD4.tup et2)
    have ee5 : msk d l H5 e0 = some (.lst []) := s45.m _ _ (by rw [msk_at e1 e2]; exact ee)
    have hodd : KindV K (msk d l H5) odd := by
      simp only [List.mem_cons, List.not_mem_nil, or_false] at hy
      rcases hy with rfl | rfl | rfl | rfl | rfl | rfl | rfl | rfl | rfl | rfl
      · exact .inl ⟨_, rfl⟩
      · exact .inl ⟨_, rfl⟩
      · exact .inr (.inl ⟨_, rfl⟩)
      · exact kind_not (.base .non) (by decide +kernel)
      · exact kind_not (.base (.str _)) (by decide +kernel)
      · exact .inl ⟨_, rfl⟩
      · exact .inl ⟨_, rfl⟩
      · exact kind_not (.base (.tup et5)) (by decide +kernel)
      · exact kind_not (.base (.lst ee5)) (by decide +kernel)
      · exact .inl ⟨_, rfl⟩
    have hp5 := s25 _ _ p1 p2 hp2
    have s05 := s02.trans s25
    have hk5 : ∀ y ∈ ws, KindV K (msk d l H5) y := fun y hy => s25.m.kind (hk2 y hy)
    clear hy s5 s45 s25 et5 ee5 hk2 hp2 s02 nL L1 L2' st se ee et et2 s24 hD4 nt0 ne0 e1 e2 hD2
    have cm : ∀ {a b : Option Int} {y : V}, y ∈ cutV ws a b → y ∈ ws := fun h => by
      unfold cutV at h
      exact List.mem_of_mem_drop (List.mem_of_mem_take h)
    have cl := fun (a b : Option Int) => cutV_length ws a b
    have hk5' : ∀ {Hx : Hp}, Sub H5 Hx → ∀ y, y ∈ ws ∨ y = odd → KindV K (msk d l Hx) y := fun sx y hy => by
      rcases hy with hy | rfl
      · exact (sx.e (d := d) (l := l)).m.kind (hk5 y hy)
      · exact (sx.e (d := d) (l := l)).m.kind hodd
    -- thing[:at] + (odd,) + thing[at:]
    refine ⟨_, rfl, _, rfl, _, rfl, rd_slA hp5 fun q1 H6 s6 g1 => ?_⟩
    refine ⟨_, rfl, sz (by simp), fun u1 nu1 => ?_⟩
    refine rd_catA ((Sub.new nu1) _ _ g1) upd_same (by have := cl none (some (at_ : Int)); simp; omega) fun q2 H7 s7 g2 => ?_
    have c7 := (s6.trans (Sub.new nu1)).trans s7
    refine ⟨_, rfl, _, rfl, _, rfl, rd_slAh (c7 _ _ hp5) fun q3 H8 s8 g3 => ?_⟩
    refine rd_catA (s8 _ _ g2) g3 (by have := cl none (some (at_ : Int)); have := cl (some (at_ : Int)) none; simp; omega) fun r1 H9 s9 f1 => ?_
    have c9 := (c7.trans s8).trans s9
    clear s6 g1 nu1 s7 g2 c7 s8 g3 s9
    -- thing[:at] + (odd,) + thing[at + 1:]
    refine ⟨_, rfl, _, rfl, _, rfl, rd_slA (c9 _ _ hp5) fun q1 H6 s6 g1 => ?_⟩
    refine ⟨_, rfl, sz (by simp), fun u1 nu1 => ?_⟩
    refine rd_catA ((Sub.new nu1) _ _ g1) upd_same (by have := cl none (some (at_ : Int)); simp; omega) fun q2 H7 s7 g2 => ?_
    have c7 := (s6.trans (Sub.new nu1)).trans s7
    refine ⟨_, rfl, _, rfl, _, _, rfl, rfl, _, rfl, rd_slAh ((c9.trans c7) _ _ hp5) fun q3 H8 s8 g3 => ?_⟩
    refine rd_catA (s8 _ _ g2) g3 (by have := cl none (some (at_ : Int)); have := cl (some ((at_ : Int) + 1)) none; simp; omega) fun r2 H10 s9 f2 => ?_
    have c10 := (c7.trans s8).trans s9
    have f1' := c10 _ _ f1
    have c0 := c9.trans c10
    clear s6 g1 nu1 s7 g2 c7 s8 g3 s9 c9 c10 f1
    -- thing[:at] + thing[at + 1:]
    refine ⟨_, rfl, _, rfl, _, rfl, rd_slA (c0 _ _ hp5) fun q1 H6 s6 g1 => ?_⟩
    refine ⟨_, rfl, _, rfl, _, _, rfl, rfl, _, rfl, rd_slAh ((c0.trans s6) _ _ hp5) fun q3 H8 s8 g3 => ?_⟩
    refine rd_catA (s8 _ _ g1) g3 (by have := cl none (some (at_ : Int)); have := cl (some ((at_ : Int) + 1)) none; omega) fun r3 H11 s9 f3 => ?_
    have c11 := (s6.trans s8).trans s9
    have f1 := c11 _ _ f1'
    have f2' := c11 _ _ f2
    have c1 := c0.trans c11
    clear s6 g1 s8 g3 s9 c0 c11 f1' f2
    refine ⟨sz (by simp), fun M nM => ?_⟩
    have sM : Sub H11 (upd H11 M (.lst [.ref r1, .ref r2, .ref r3])) := Sub.new nM
    have eM : (upd H11 M (.lst [.ref r1, .ref r2, .ref r3])) M = some (.lst [.ref r1, .ref r2, .ref r3]) := upd_same
    generalize upd H11 M (.lst [.ref r1, .ref r2, .ref r3]) = H12 at sM eM ⊢
    -- some + some
    refine ⟨_, rfl, _, rfl, _, rfl, M, M, _, _, rfl, rfl, eM, eM, sz (by simp), fun N nN => ?_⟩
    have sN : Sub H12 (upd H12 N (.lst ([.ref r1, .ref r2, .ref r3] ++ [.ref r1, .ref r2, .ref r3]))) := Sub.new nN
    have eN : (upd H12 N (.lst ([.ref r1, .ref r2, .ref r3] ++ [.ref r1, .ref r2, .ref r3]))) N = some (.lst ([.ref r1, .ref r2, .ref r3] ++ [.ref r1, .ref r2, .ref r3])) := upd_same
    generalize upd H12 N (.lst ([.ref r1, .ref r2, .ref r3] ++ [.ref r1, .ref r2, .ref r3])) = H13 at sN eN ⊢
    have c13 := (sM.trans sN)
    have c3 := c1.trans c13
    have f1 := c13 _ _ f1
    have f2 := c13 _ _ f2'
    have f3 := c13 _ _ f3
    clear sM eM nM sN nN c13 c1 f2'
    -- the eight
    refine ⟨_, rfl, p, ws, rfl, SqT.of (c3 _ _ hp5), fun a1 na1 => ?_⟩
    have x1 : Sub H13 (upd H13 a1 (.tup ws.reverse)) := Sub.new na1
    have y1 : (upd H13 a1 (.tup ws.reverse)) a1 = some (.tup ws.reverse) := upd_same
    generalize upd H13 a1 (.tup ws.reverse) = H14 at x1 y1 ⊢
    refine ⟨_, rfl, _, rfl, rd_catA ((c3.trans x1) _ _ hp5) ((c3.trans x1) _ _ hp5) (by omega) fun a2 H15 x2 y2 => ?_⟩
    refine ⟨_, rfl, p, ws, rfl, .inr (SqT.of (((c3.trans x1).trans x2) _ _ hp5)), fun a3 na3 => ?_⟩
    have x3 : Sub H15 (upd H15 a3 (.lst ws)) := Sub.new na3
    have y3 : (upd H15 a3 (.lst ws)) a3 = some (.lst ws) := upd_same
    have z3 := (((hD5.sub c3).sub x1).sub x2).new na3
    generalize upd H15 a3 (.lst ws) = H16 at x3 y3 ⊢
    refine ⟨by decide, fun a4 na4 => ?_⟩
    have x4 : Sub H16 (upd H16 a4 (.tup [])) := Sub.new na4
    have y4 : (upd H16 a4 (.tup [])) a4 = some (.tup []) := upd_same
    generalize upd H16 a4 (.tup []) = H17 at x4 y4 ⊢
    refine fun a5 na5 => ?_
    have x5 : Sub H17 (upd H17 a5 (.dK [])) := Sub.new na5
    have y5 : (upd H17 a5 (.dK [])) a5 = some (.dK []) := upd_same
    have z5 := (((((hD5.sub c3).sub x1).sub x2).sub x3).sub x4).new na5
    generalize upd H17 a5 (.dK []) = H18 at x5 y5 ⊢
    have x45 := x4.trans x5
    have x35 := x3.trans x45
    have x25 := x2.trans x35
    have x15 := x1.trans x25
    have c8 := c3.trans x15
    have hD18 := hD5.sub c8
    have f1 := x15 _ _ f1
    have f2 := x15 _ _ f2
    have f3 := x15 _ _ f3
    have eN := x15 _ _ eN
    have y1 := x25 _ _ y1
    have y2 := x35 _ _ y2
    have y3 := x45 _ _ y3
    have y4 := x5 _ _ y4
    refine ⟨sz (by simp), fun B nB => ?_⟩
    have sB : Sub H18 (upd H18 B (.lst [.ref a1, .ref a2, .ref a3, .ref a4, .non, .int 5, .str "crowd", .ref a5])) := Sub.new nB
    have eB : (upd H18 B (.lst [.ref a1, .ref a2, .ref a3, .ref a4, .non, .int 5, .str "crowd", .ref a5])) B = some (.lst [.ref a1, .ref a2, .ref a3, .ref a4, .non, .int 5, .str "crowd", .ref a5]) := upd_same
    generalize upd H18 B (.lst [.ref a1, .ref a2, .ref a3, .ref a4, .non, .int 5, .str "crowd", .ref a5]) = H19 at sB eB ⊢
    refine ⟨N, B, _, _, rfl, rfl, sB _ _ eN, eB, sz (by simp), fun C nC => ?_⟩
    have hD19 := hD18.sub sB
    obtain ⟨C1, C2⟩ := hD19.new nC
    have good : ∀ y ∈ ([.ref r1, .ref r2, .ref r3] ++ [.ref r1, .ref r2, .ref r3] : List V) ++ [.ref a1, .ref a2, .ref a3, .ref a4, .non, .int 5, .str "crowd", .ref a5], GoodT K (2 * ws.length + 1) (msk d l H18) y := fun y hy => by
      have gt : ∀ {q : Addr} {us : List V}, H18 q = some (.tup us) → (∀ y ∈ us, y ∈ ws ∨ y = odd) → us.length ≤ 2 * ws.length + 1 → GoodT K (2 * ws.length + 1) (msk d l H18) (.ref q) := fun e1 e2 e3 => good_tup hD18 e1 (fun y hy => hk5' c8 y (e2 y hy)) e3 (by omega)
      have l1 := cl none (some (at_ : Int))
      have l2 := cl (some (at_ : Int)) none
      have l3 := cl (some ((at_ : Int) + 1)) none
      have g1 : GoodT K (2 * ws.length + 1) (msk d l H18) (.ref r1) := gt f1 (fun y hy => by
        rcases List.mem_append.mp hy with hy | hy
        · rcases List.mem_append.mp hy with hy | hy
          · exact .inl (cm hy)
          · exact .inr (List.mem_singleton.mp hy)
        · exact .inl (cm hy)) (by simp only [List.length_append, List.length_singleton]; omega)
      have g2 : GoodT K (2 * ws.length + 1) (msk d l H18) (.ref r2) := gt f2 (fun y hy => by
        rcases List.mem_append.mp hy with hy | hy
        · rcases List.mem_append.mp hy with hy | hy
          · exact .inl (cm hy)
          · exact .inr (List.mem_singleton.mp hy)
        · exact .inl (cm hy)) (by simp only [List.length_append, List.length_singleton]; omega)
      have g3 : GoodT K (2 * ws.length + 1) (msk d l H18) (.ref r3) := gt f3 (fun y hy => by
        rcases List.mem_append.mp hy with hy | hy
        · exact .inl (cm hy)
        · exact .inl (cm hy)) (by simp only [List.length_append]; omega)
      simp only [List.mem_append, List.mem_cons, List.not_mem_nil, or_false] at hy
      rcases hy with ((rfl | rfl | rfl) | (rfl | rfl | rfl)) | (rfl | rfl | rfl | rfl | rfl | rfl | rfl | rfl)
      · exact g1
      · exact g2
      · exact g3
      · exact g1
      · exact g2
      · exact g3
      · exact gt y1 (fun y hy => .inl (List.mem_reverse.mp hy)) (by rw [List.length_reverse]; omega)
      · exact gt y2 (fun y hy => .inl (by rcases List.mem_append.mp hy with hy | hy <;> exact hy)) (by rw [List.length_append]; omega)
      · exact good_not (.base (.lst (by rw [msk_at z3.1 z3.2]; exact y3))) (by decide +kernel)
      · exact gt y4 (fun y hy => by simp at hy) (by simp)
      · exact good_not (.base .non) (by decide +kernel)
      · exact good_not (.base (.int _)) (by decide +kernel)
      · exact good_not (.base (.str _)) (by decide +kernel)
      · exact good_not (.base (.dK (by rw [msk_at z5.1 z5.2]; exact y5))) (by decide +kernel)
    refine ⟨d, l, sm, _, .ref C, _, rfl, hD19.sub (Sub.new nC), by omega, .inl ⟨C, rfl, .inl (SqL.of (by rw [msk_at C1 C2]; exact upd_same))⟩, by simp, by simp, fun y H20 hy s20 hD20 => ?_⟩
    have sfin := ((sB.trans (Sub.new nC)).e (d := d) (l := l)).trans s20
    exact k y H20 (s05.trans ((c8.e (d := d) (l := l)).trans sfin)) (hD20.le (by omega)) (sfin.m.good (good y hy))
end
end K31
set_option Elab.async false
set_option linter.all false
set_option maxRecDepth 100000
set_option maxHeartbeats 4000000
namespace K31
open PySem PySem.Spec PyProof.Rows L2 He
open C8 (Cal Met Mak pe_c pe_mk pe_mt pe_mt0 pe_gc)
def words5 : List Str := ["must", "must", "never", "stay"]
theorem take_map {xs : List Str} {k : Nat} : (xs.map V.str).take k = (xs.take k).map V.str := by rw [List.map_take]
theorem perm_strs : ∀ {zs : List V} {xs : List Str}, zs.Perm (xs.map V.str) → ∃ ys : List Str, zs = ys.map V.str ∧ ys.Perm xs := fun {zs xs} h => by
  have hs : ∀ z ∈ zs, z ∈ xs.map V.str := fun z hz => h.mem_iff.mp hz
  obtain ⟨cs, e, _, _⟩ := strs_of hs
  subst e
  refine ⟨cs, rfl, ?_⟩
  have := h.map (fun v => match v with | .str s => s | _ => "")
  rw [List.map_map, List.map_map] at this
  have e2 : ∀ l : List Str, l.map ((fun v => match v with | V.str s => s | _ => ("" : Str)) ∘ V.str) = l := fun l => by
    refine Eq.trans (List.map_congr_left (g := id) fun x _ => rfl) (List.map_id _)
  rw [e2, e2] at this
  exact this
section
variable {P : Program} {w : World} {K : PySem.W.Frag} {mg : Str → Option Value} {base : Heap}
theorem rd_slLh {H : Hp} {a : Addr} {xs : List V} {k : Nat} {i : Int} {Q : VK} (ea : SqL K H a xs) (hi : i = (k : Int)) (q : ∀ p, H p = none → Q (.ref p) (upd H p (.lst (xs.take k)))) : rSlL K (.ref a) none (some i) H Q := by
  subst hi
  refine ⟨a, xs, rfl, ea, fun p np => ?_⟩
  rw [cutV_take]
  exact q p np
theorem rd_ifv {b : Bool} {σ : L2.St} {H : Hp} {Q : VK} {i j : Nat} {x y : Addr} (hi : σ[i]? = some (some (.ref x))) (hj : σ[j]? = some (some (.ref y))) (q : ∀ z, z = x ∨ z = y → Q (.ref z) H) : if b = true then tVar i σ H Q else tVar j σ H Q := by
  cases b with
  | true => exact ⟨_, hi, q x (.inl rfl)⟩
  | false => exact ⟨_, hj, q y (.inr rfl)⟩
/-! ### _law_drawn -/
structure Drawn (K : PySem.W.Frag) (H : Hp) (p a g b q : Addr) (lp lg : List (Str × Str)) (xs gs : List Str) (ps : Pins) : Prop where
  fp : FDf V.str H p lp
  fg : FDf V.str H g lg
  tp : Tree lp
  tg : Tree lg
  ea : H a = some (.lst (xs.map V.str))
  eb : H b = some (.lst (gs.map V.str))
  xp : ∀ x ∈ xs, x ∈ places lp
  gp : ∀ x ∈ gs, x ∈ places lg
  len : gs.length = xs.length
  x1 : 1 ≤ xs.length
  x8 : xs.length ≤ 8
  lt : LToldsL H q ps
  p6 : ps.length ≤ 6
  who : ∀ e ∈ ps, e.2.who < xs.length
def sp_law_drawn (K : PySem.W.Frag) : Sp := fun vs H Q _ => ∃ (d l sm : Addr) (T : Nat), vs = [.ref d] ∧ DrawAt H d l sm T ∧ T ≤ 700000000 ∧
  ∀ (t p a g b q : Addr) (H' : Hp) (lp lg : List (Str × Str)) (xs gs : List Str) (ps : Pins), SubE d l H H' → DrawAt H' d l sm (T + 200) → msk d l H' t = some (.tup [.ref p, .ref a, .ref g, .ref b, .ref q]) → Drawn K (msk d l H') p a g b q lp lg xs gs ps → Q (.ref t) H'
abbrev n_law_drawn : List Str := ["_law_draw", "_law_names_here", "_law_total", "_law_parents_here", "_law_web", "_law_tolds_here", "_law_word", "_law_one", "_law_who"]
theorem sc_law_drawn : FnScope n_law_drawn ["_law_draw"] (defScope s_law_drawn) := ⟨rfl, rfl, rfl, by decide +kernel, rfl, by decide +kernel, by decide +kernel⟩
theorem ok_law_drawn (T : Txt K mg) : Cal P w K mg base 4 "_law_drawn" (sp_law_drawn K) [] := by
  refine cal_of T.f__law_drawn T.g__law_drawn sc_law_drawn (fun vs H Q E h => ?_) (fun _ _ _ _ _ _ us hl => match us, hl with | [_], _ => rfl) (fun f0 cdv A outer s0 H vs Q E hr h => ?_)
  · obtain ⟨d, l, sm, t, rfl, _⟩ := h
    rfl
  · obtain ⟨d, l, sm, T0, rfl, hD, hT, k⟩ := h
    refine ⟨_, (pss_cons (ps_par (i := 1) (j := 2) rfl sc_law_drawn.nd rfl rfl (by decide) rfl rfl (pa_cons (pe_c (ok_law_names T) hr (by decide) rfl (pa_cons (pv 0) (pa_cons pe_int pa_nil))) (pa_cons (pe_op op_add pe_int (pe_c (ok_law_take T) hr (by decide) rfl (pa_cons (pv 0) (pa_cons pe_int pa_nil)))) pa_nil)) (by rfl))
  (pss_cons (ps_set (i := 3) sc_law_drawn.nd rfl (.inl rfl) (pe_c (ok_law_parents T) hr (by decide) rfl (pa_cons (pv 0) (pa_cons (pe_slice sl_list (pv 1) po_none (po_some (pe_op op_add pe_int (pe_c (ok_law_take T) hr (by decide) rfl (pa_cons (pv 0) (pa_cons pe_int pa_nil)))))) pa_nil))))
  (pss_cons (ps_set (i := 4) sc_law_drawn.nd rfl (.inl rfl) (pe_c (ok_law_parents T) hr (by decide) rfl (pa_cons (pv 0) (pa_cons (pe_slice sl_list (pe_c (ok_law_mixed T) hr (by decide) rfl (pa_cons (pv 0) (pa_cons (pv 1) pa_nil))) po_none (po_some (pe_op op_add pe_int (pe_c (ok_law_take T) hr (by decide) rfl (pa_cons (pv 0) (pa_cons pe_int pa_nil)))))) pa_nil))))
  (pss_cons (ps_set (i := 4) sc_law_drawn.nd rfl (.inl rfl) (pe_ifExp (pt_cmpR op_eq (pe_c (ok_law_take T) hr (by decide) rfl (pa_cons (pv 0) (pa_cons pe_int pa_nil))) pe_int (nomark _)) (pv 3) (pv 4)))
  (pss_cons (ps_set (i := 5) sc_law_drawn.nd rfl (.inl rfl) (pe_c (ok_law_tolds T) hr (by decide) rfl (pa_cons (pv 0) (pa_cons (pv 1) (pa_cons (pv 2) (pa_cons pe_int pa_nil))))))
  (pss_cons (ps_if (pt_cmpR op_gt (pe_c (ok_law_take T) hr (by decide) rfl (pa_cons (pv 0) (pa_cons pe_int pa_nil))) pe_int (nomark _)) (pss_cons (ps_par (i := 6) (j := 7) rfl sc_law_drawn.nd rfl rfl (by decide) rfl rfl (pa_cons (pe_c (ok_law_pick T) hr (by decide) rfl (pa_cons (pv 0) (pa_cons (pe_lst (pa_cons pe_str (pa_cons pe_str (pa_cons pe_str (pa_cons pe_str pa_nil))))) pa_nil))) (pa_cons (pe_c (ok_law_pick T) hr (by decide) rfl (pa_cons (pv 0) (pa_cons (pe_callB (c_sortedD rfl) rfl T.n_sorted (by decide +kernel) (pa_cons (pv 4) pa_nil)) pa_nil))) pa_nil)) (by rfl))
  (pss_one (ps_for PassesOwn.never rfl (pi_list (pe_slice sl_list (pe_c (ok_law_mixed T) hr (by decide) rfl (pa_cons (pv 0) (pa_cons (pe_listRg rfl rfl T.n_list (prg_1 rfl T.n_range (pv 2))) pa_nil))) po_none (po_some (pe_op op_add pe_int (pe_c (ok_law_take T) hr (by decide) rfl (pa_cons (pv 0) (pa_cons pe_int pa_nil))))))) (pg_name (i := 8) sc_law_drawn.nd rfl (.inl rfl))
  (pss_one (ps_expr (pe_bm PySem.F.plainAttrs_list PySem.F.slot_list_append PySem.F.type_list_append mt_append (pv 5) (pa_cons (pe_ifExp (pt_cmpR op_eq (pv 6) pe_str (nomark _)) (pe_tup (pa_cons (pv 6) (pa_cons (pv 8) pa_nil))) (pe_tup (pa_cons (pv 6) (pa_cons (pv 8) (pa_cons (pv 7) pa_nil))))) pa_nil))))))) pss_nil)
  (pss_one (ps_ret (pe_tup (pa_cons (pv 3) (pa_cons (pe_c (ok_law_spots T) hr (by decide) rfl (pa_cons (pv 0) (pa_cons (pv 3) (pa_cons (pv 2) pa_nil)))) (pa_cons (pv 4) (pa_cons (pe_c (ok_law_spots T) hr (by decide) rfl (pa_cons (pv 0) (pa_cons (pv 4) (pa_cons (pv 2) pa_nil)))) (pa_cons (pv 5) pa_nil)))))))))))))), ?_⟩
    refine ⟨_, rfl, d, l, sm, T0, 6, rfl, hD, by omega, by decide, fun N H1 ns nN s1 hD1 eN hl6 hnd hok => ?_⟩
    refine ⟨_, rfl, d, l, sm, _, 8, rfl, hD1, by omega, by decide, by decide, fun r8 H2 hr8 s2 hD2 => ?_⟩
    obtain ⟨n, hn, hn1, hn8⟩ : ∃ n : Nat, (1 : Int) + (r8 : Int) = (n : Int) ∧ 1 ≤ n ∧ n ≤ 8 := ⟨r8 + 1, by omega, by omega, by omega⟩
    refine ⟨_, _, rfl, rfl, .ref N, .int (n : Int), by show [V.ref N, V.int ((1 : Int) + (r8 : Int))] = _; rw [hn], ?_⟩
    obtain ⟨N1, N2⟩ := hD.new nN
    have s02 := s1.trans s2
    have eN2 := s2 _ _ N1 N2 eN
    clear s1 s2 hD1 eN hn hr8
    -- parents
    refine ⟨_, rfl, _, rfl, _, rfl, d, l, sm, _, 5, rfl, hD2, by omega, by decide, by decide, fun r5 H3 hr5 s3 hD3 => ?_⟩
    refine ⟨_, _, rfl, rfl, _, rfl, ?_⟩
    have eN3 := s3 _ _ N1 N2 eN2
    have s03 := s02.trans s3
    refine rd_slLh (SqL.of eN3) (k := 1 + r5) (by push_cast; rfl) fun C nC => ?_
    have sC := Sub.new (o := .lst ((ns.map V.str).take (1 + r5))) nC
    obtain ⟨C1, C2⟩ := hD3.new nC
    have hcl : (ns.take (1 + r5)).length = 1 + r5 := by rw [List.length_take]; omega
    refine ⟨d, l, sm, _, C, ns.take (1 + r5), rfl, hD3.sub sC, by omega, SqL.of (by rw [msk_at C1 C2, upd_same, take_map]), by omega, by omega, hnd.sublist (List.take_sublist _ _), fun x hx => hok x (List.mem_of_mem_take hx), fun p H4 lp np s4 hD4 fp tp kp => ?_⟩
    have s34 := (sC.e (d := d) (l := l)).trans s4
    have s04 := s03.trans s34
    have eN4 := s34 _ _ N1 N2 eN3
    clear s3 s4 s34 sC nC C1 C2 hcl hD2 hD3 eN3 s03 s02 eN2 hr5
    -- web
    refine ⟨_, rfl, _, rfl, _, rfl, d, l, sm, _, N, _, rfl, hD4, by omega, SqL.of eN4, by simp; omega, fun y hy => ?_, fun M H5 zs nM s5 hD5 eM pm => ?_⟩
    · obtain ⟨x, hx, rfl⟩ := List.mem_map.mp hy
      exact .inl ⟨x, rfl, (hok x hx).str⟩
    obtain ⟨ms, rfl, pms⟩ := perm_strs pm
    have s05 := s04.trans s5
    have eN5 := s5 _ _ N1 N2 eN4
    have fp5 := s5.m.f (show FDf V.str (msk d l H4) p lp from let ⟨o, e⟩ := fp; ⟨o, by
      obtain ⟨q1, q2⟩ := hD4.ne e (fun _ z => nomatch z) (fun _ z => nomatch z)
      rw [msk_at q1 q2]; exact e⟩)
    have hml : ms.length = 6 := by rw [pms.length_eq]; exact hl6
    have hmnd : ms.Nodup := pms.nodup_iff.mpr hnd
    have hmok : ∀ x ∈ ms, NameOk x := fun x hx => hok x (pms.mem_iff.mp hx)
    obtain ⟨M1, M2⟩ := hD4.new nM
    refine ⟨_, rfl, d, l, sm, _, 5, rfl, hD5, by simp; omega, by decide, by decide, fun r5 H6 hr5 s6 hD6 => ?_⟩
    refine ⟨_, _, rfl, rfl, _, rfl, ?_⟩
    have eM6 := s6 _ _ M1 M2 eM
    refine rd_slLh (SqL.of eM6) (k := 1 + r5) (by push_cast; rfl) fun C nC => ?_
    have sC := Sub.new (o := .lst ((ms.map V.str).take (1 + r5))) nC
    obtain ⟨C1, C2⟩ := hD6.new nC
    have hcl : (ms.take (1 + r5)).length = 1 + r5 := by rw [List.length_take]; omega
    refine ⟨d, l, sm, _, C, ms.take (1 + r5), rfl, hD6.sub sC, by simp; omega, SqL.of (by rw [msk_at C1 C2, upd_same, take_map]), by omega, by omega, hmnd.sublist (List.take_sublist _ _), fun x hx => hmok x (List.mem_of_mem_take hx), fun g H7 lg np s7 hD7 fg tg kg => ?_⟩
    have s57 := (s6.trans (sC.e (d := d) (l := l))).trans s7
    have s07 := s05.trans s57
    have eN7 := s57 _ _ N1 N2 eN5
    have fp7 := s57.m.f fp5
    have fg7 : FDf V.str (msk d l H7) g lg := let ⟨o, e⟩ := fg; ⟨o, by
      obtain ⟨q1, q2⟩ := hD7.ne e (fun _ z => nomatch z) (fun _ z => nomatch z)
      rw [msk_at q1 q2]; exact e⟩
    have hD7 := hD7.le (T' := T0 + 110) (by simp; omega)
    clear s5 s6 s7 s57 sC nC C1 C2 hcl hD4 hD5 hD6 eM6 eM M1 M2 s05 s04 eN4 eN5 fp fp5 fg hr5 hmnd hmok hml pms pm nM np
    -- web = parents if .. else web
    refine ⟨_, rfl, d, l, sm, _, 2, rfl, hD7, by omega, by decide, by decide, fun r2 H8 hr2 s8 hD8 => ?_⟩
    refine ⟨rfl, _, rfl, ?_⟩
    have eN8 := s8 _ _ N1 N2 eN7
    have fp8 := s8.m.f fp7
    have fg8 := s8.m.f fg7
    have s08 := s07.trans s8
    refine rd_ifv rfl rfl fun z hz => ?_
    have hw : ∃ lw, FDf V.str (msk d l H8) z lw ∧ Tree lw := by
      rcases hz with rfl | rfl
      · exact ⟨lp, fp8, tp⟩
      · exact ⟨lg, fg8, tg⟩
    clear hz fg8 fg7 tg kg
    obtain ⟨lw, fw, tw⟩ := hw
    have hD8 := hD8.le (T' := T0 + 111) (by omega)
    clear s8 hD7 fp7 s07 eN7
    -- tolds
    refine ⟨_, rfl, _, rfl, _, rfl, d, l, sm, _, N, ns, n, 3, rfl, hD8, by omega, by rw [msk_at N1 N2]; exact eN8, by omega, by omega, hok, hn1, by omega, by decide, fun F H9 ps nF s9 hD9 lt9 hpl hpw => ?_⟩
    obtain ⟨F1, F2⟩ := hD8.new nF
    have F3 := hD8.sm_ne nF
    have hD9 := hD9.le (T' := T0 + 124) (by omega)
    -- one more word for some
    refine ⟨_, rfl, d, l, sm, _, 4, rfl, hD9, by omega, by decide, by decide, fun r4 H10 hr4 s10 hD10 => ?_⟩
    refine ⟨_, _, rfl, rfl, _, rfl, ?_⟩
    have lt10 := s10.m.lts lt9
    have sF := s9.trans s10
    have hD10 := hD10.le (T' := T0 + 125) (by omega)
    have fin : ∀ (o6 o7 o8 : Option V) (H' : Hp) (ps' : Pins), SubE d l H8 H' → DrawAt H' d l sm (T0 + 145) → LToldsL (msk d l H') F ps' → ps'.length ≤ 6 → (∀ e ∈ ps', e.2.who < n) → tRet (tTup
                      (tCons (tVar 3)
                        (tCons (tCall (sp_law_spots K) [] C8.E0 (tCons (tVar 0) (tCons (tVar 3) (tCons (tVar 2) tNil))))
                          (tCons (tVar 4)
                            (tCons (tCall (sp_law_spots K) [] C8.E0 (tCons (tVar 0) (tCons (tVar 4) (tCons (tVar 2) tNil))))
                              (tCons (tVar 5) tNil)))))) { nx := fun _ H' => Q V.non H', rt := Q } [some (.ref d), some (.ref N), some (.int (n : Int)), some (.ref p), some (.ref z), some (.ref F), o6, o7, o8] H' := fun o6 o7 o8 H' ps' s' hD' lt' h6 hw' => by
      have fp' := s'.m.f fp8
      have fw' := s'.m.f fw
      refine ⟨_, rfl, _, rfl, _, rfl, _, rfl, d, l, sm, _, p, lp, n, rfl, hD', by omega, msk_sub.f fp', tp, by omega, fun a Ha xs na sa hDa ea hxl hxp => ?_⟩
      obtain ⟨a1, a2⟩ := hD'.new na
      refine ⟨_, rfl, _, rfl, _, rfl, _, rfl, d, l, sm, _, z, lw, n, rfl, hDa, by omega, msk_sub.f (sa.m.f fw'), tw, by omega, fun b Hb gs nb sb hDb eb hgl hgp => ?_⟩
      obtain ⟨b1, b2⟩ := hDa.new nb
      refine ⟨_, rfl, sz (by simp), fun t nt => ?_⟩
      have st := (Sub.new (o := .tup [.ref p, .ref a, .ref z, .ref b, .ref F]) nt)
      have sab := (sa.trans sb).trans (st.e (d := d) (l := l))
      refine k t p a z b F _ lp lw xs gs ps' (s08.trans (s'.trans sab)) ((hDb.sub st).le (by omega)) ((hDb.sub st).tup upd_same) ⟨sab.m.f fp', sab.m.f fw', tp, tw, ?_, ?_, hxp, hgp, by omega, by omega, by omega, sab.m.lts lt', h6, by rw [hxl]; exact hw'⟩
      · exact (sb.trans (st.e (d := d) (l := l))).m _ _ (by rw [msk_at a1 a2]; exact ea)
      · exact (st.e (d := d) (l := l)).m _ _ (by rw [msk_at b1 b2]; exact eb)
    refine rd_ite (fun _ => ?_) (fun _ => fin _ _ _ H10 ps sF (hD10.le (by omega)) lt10 (by omega) hpw)
    refine ⟨_, rfl, by decide, fun L nL => ?_⟩
    have sL : Sub H10 (upd H10 L (.lst (words5.map V.str))) := Sub.new nL
    have eL : (upd H10 L (.lst (words5.map V.str))) L = some (.lst (words5.map V.str)) := upd_same
    show sp_law_pick _ _ (upd H10 L (.lst (words5.map V.str))) _ C8.E0
    have hDL := hD10.sub sL
    obtain ⟨L1, L2'⟩ := hD10.new nL
    have sFL := sF.trans (sL.e (d := d) (l := l))
    have ltL := (sL.e (d := d) (l := l)).m.lts lt10
    generalize upd H10 L (.lst (words5.map V.str)) = H11 at sL eL hDL sFL ltL ⊢
    clear sL nL hD10 lt10 sF s10
    refine ⟨d, l, sm, _, .ref L, words5.map V.str, rfl, hDL, by omega, .inl ⟨L, rfl, .inl (SqL.of (by rw [msk_at L1 L2']; exact eL))⟩, by decide, by decide, fun y H12 hy s12 hD12 => ?_⟩
    obtain ⟨wd, hw, rfl⟩ := List.mem_map.mp hy
    have hw3 : wd = "must" ∨ wd = "never" ∨ wd = "stay" := by
      rcases List.mem_cons.mp hw with rfl | hw
      · exact .inl rfl
      rcases List.mem_cons.mp hw with rfl | hw
      · exact .inl rfl
      rcases List.mem_cons.mp hw with rfl | hw
      · exact .inr (.inl rfl)
      · rw [List.mem_singleton.mp hw]; exact .inr (.inr rfl)
    have s812 := sFL.trans s12
    have lt12 := s12.m.lts ltL
    have fw12 := s812.m.f fw
    have tw12 := tw.hi
    refine ⟨_, rfl, _, rfl, z, kS V.str lw, lw.map (·.1), rfl, (msk_sub.f fw12).rd, by unfold kS; rw [List.map_map, List.map_map]; rfl, by rw [List.length_map]; omega, fun ys B hpm hs nB => ?_⟩
    have hys := srt_is hpm hs
    subst hys
    have sB : Sub H12 (upd H12 B (.lst ((srt (lw.map (·.1))).map V.str))) := Sub.new nB
    obtain ⟨B1, B2⟩ := hD12.new nB
    refine ⟨d, l, sm, _, .ref B, _, rfl, hD12.sub sB, by omega, .inl ⟨B, rfl, .inl (SqL.of (by rw [msk_at B1 B2]; exact upd_same))⟩, by rw [List.length_map, srt_len, List.length_map]; exact tw.lo, by rw [List.length_map, srt_len, List.length_map]; omega, fun y H13 hy s13 hD13 => ?_⟩
    obtain ⟨one, hone, rfl⟩ := List.mem_map.mp hy
    have hone2 : PyData.strOk one = true := (tw.ok one ((srt_perm _).mem_iff.mp hone)).str
    have s1213 := (sB.e (d := d) (l := l)).trans s13
    have s813 := s812.trans s1213
    have lt13 := s1213.m.lts lt12
    have hD13 := hD13.le (T' := T0 + 127) (by omega)
    refine ⟨_, _, rfl, ?_⟩
    clear hy hw hD12 s12 sB nB B1 B2 s13 s1213 lt12 fw12 s812 ltL sFL hDL eL L1 L2' hone hpm hs
    -- for who in mixed(list(range(total)))[:1 + take(3)]
    refine ⟨_, rfl, _, rfl, (n : Int), rfl, RgOk.of_le (by decide) (by omega) (by decide) (by omega), fun R nR => ?_⟩
    have sR : Sub H13 (upd H13 R (.lst (rgV 0 (n : Int)))) := Sub.new nR
    have hrl : (rgV 0 (n : Int)).length = n := by rw [rgV_length]; omega
    refine ⟨d, l, sm, _, R, rgV 0 (n : Int), rfl, hD13.sub sR, by omega, SqL.of upd_same, by omega, fun y hy => ?_, fun M H14 zs nM s14 hD14 eM pm => ?_⟩
    · unfold rgV at hy
      obtain ⟨i, _, rfl⟩ := List.mem_map.mp hy
      exact .inr ⟨_, rfl⟩
    obtain ⟨M1, M2⟩ := (hD13.sub sR).new nM
    have hD14 := hD14.le (T' := T0 + 135) (by omega)
    refine ⟨_, rfl, d, l, sm, _, 3, rfl, hD14, by omega, by decide, by decide, fun r3 H15 hr3 s15 hD15 => ?_⟩
    refine ⟨_, _, rfl, rfl, _, rfl, ?_⟩
    have eM15 := s15 _ _ M1 M2 eM
    refine rd_slLh (SqL.of eM15) (k := 1 + r3) (by push_cast; rfl) fun C nC => ?_
    have sC : Sub H15 (upd H15 C (.lst (zs.take (1 + r3)))) := Sub.new nC
    have eC : (upd H15 C (.lst (zs.take (1 + r3)))) C = some (.lst (zs.take (1 + r3))) := upd_same
    obtain ⟨C1, C2⟩ := hD15.new nC
    have hD16 := (hD15.sub sC).le (T' := T0 + 145) (by omega)
    have s1316 := ((((sR.e (d := d) (l := l)).trans s14).trans s15).trans (sC.e (d := d) (l := l)))
    have hzs : ∀ v ∈ zs.take (1 + r3), ∃ u : Nat, v = .int (u : Int) ∧ u < n := fun v hv => by
      have h1 := pm.mem_iff.mp (List.mem_of_mem_take hv)
      unfold rgV at h1
      obtain ⟨i, hi, rfl⟩ := List.mem_map.mp h1
      have := List.mem_range.mp hi
      exact ⟨i, by rw [Int.zero_add], by omega⟩
    have hzl : (zs.take (1 + r3)).length ≤ 3 := by rw [List.length_take]; omega
    generalize upd H15 C (.lst (zs.take (1 + r3))) = H16 at sC eC hD16 s1316 ⊢
    generalize zs.take (1 + r3) = us at eC hzs hzl
    have s816 := s813.trans s1316
    have lt16 := s1316.m.lts lt13
    have eC16 : msk d l H16 C = some (.lst us) := by rw [msk_at C1 C2]; exact eC
    have CF : C ≠ F := fun e => by
      have h1 : msk d l H15 F = some _ := ((((sR.e (d := d) (l := l)).trans s14).trans s15).m.lts lt13).at_
      rw [← e] at h1
      have := msk_sub _ _ h1
      rw [nC] at this
      cases this
    clear sR nR s14 hD14 eM pm nM M1 M2 s15 hD15 eM15 sC nC s1316 s813 lt13 hD13
    refine ⟨C, rfl, ⟨_, SqL.of eC⟩, ?_⟩
    letI : Inhabited V := ⟨.non⟩
    refine for_it (walkL (K := K) (a := C) (data := us) (f := id)) (fun i σ H' => ∃ (o8 : Option V) (ps' : Pins), σ = [some (.ref d), some (.ref N), some (.int (n : Int)), some (.ref p), some (.ref z), some (.ref F), some (.str wd), some (.str one), o8] ∧ SubE d l H8 H' ∧ DrawAt H' d l sm (T0 + 145) ∧ msk d l H' C = some (.lst us) ∧ LToldsL (msk d l H') F ps' ∧ ps'.length = ps.length + i ∧ ∀ e ∈ ps', e.2.who < n)
      ⟨none, ps, rfl, s816, hD16, eC16, lt16, rfl, hpw⟩ (fun i σ H' _ ⟨_, _, _, _, _, e, _⟩ => SqL.of (by rw [List.map_id]; exact msk_sub _ _ e)) ?_ (fun σ H' ⟨o8, ps', h1, h2, h3, h4, h5, h6, h7⟩ => ?_)
    · rintro i x σ H17 H18 hi ⟨o8, ps', rfl, s17, hD17, eC17, lt17, hpl', hpw'⟩ ⟨rfl, ex⟩
      obtain rfl : x = us[i] := Eq.trans (b := id (us.getD i default)) ex (get_D (f := id) hi)
      obtain ⟨u, eu, hun⟩ := hzs _ (List.getElem_mem hi)
      have hi3 : i < 3 := by omega
      rw [eu]
      refine ⟨_, rfl, .inl ⟨rfl, _, SqL.of (msk_sub _ _ lt17.at_)⟩, _, rfl, rfl, _, rfl, ?_⟩
      have C1' : C ≠ d ∧ C ≠ l := ⟨fun e => (by rw [e] at eC17; unfold msk at eC17; rw [if_pos (.inl rfl)] at eC17; exact nomatch eC17), fun e => (by rw [e] at eC17; unfold msk at eC17; rw [if_pos (.inr rfl)] at eC17; exact nomatch eC17)⟩
      have := rd_told (Q := fun v H' => ∃ (o8 : Option V) (ps'' : Pins), [some (V.ref d), some (.ref N), some (.int (n : Int)), some (.ref p), some (.ref z), some (.ref F), some (.str wd), some (.str one), some (.int (u : Int))] = [some (.ref d), some (.ref N), some (.int (n : Int)), some (.ref p), some (.ref z), some (.ref F), some (.str wd), some (.str one), o8] ∧ SubE d l H8 H' ∧ DrawAt H' d l sm (T0 + 145) ∧ msk d l H' C = some (.lst us) ∧ LToldsL (msk d l H') F ps'' ∧ ps''.length = ps.length + (i + 1) ∧ ∀ e ∈ ps'', e.2.who < n)
        (u := u) hw3 hone2 hD17 F1 F2 F3 (by omega) lt17 nF s17 (fun H' b t g1 g5 g2 g3 g4 => ⟨_, ps' ++ [(b, t)], rfl, g1, g3, by rw [msk_at C1'.1 C1'.2]; exact g5 _ _ CF (msk_sub _ _ eC17), g4, by rw [List.length_append, hpl']; rfl, fun e he => ?_⟩)
      · refine rd_ite (fun h => ?_) (fun h => ?_)
        · rw [if_pos h] at this
          exact ⟨_, rfl, _, rfl, sz (by simp), this⟩
        · rw [if_neg (by rw [h]; decide)] at this
          exact ⟨_, rfl, _, rfl, _, rfl, sz (by simp), this⟩
      · rcases List.mem_append.mp he with he | he
        · exact hpw' e he
        · rw [List.mem_singleton.mp he]
          show t.who < n
          rw [g2]
          exact hun
    · subst h1
      exact fin _ _ _ H' ps' h2 h3 h5 (by omega) h7
end
end K31
set_option Elab.async false
set_option linter.all false
set_option maxRecDepth 100000
set_option maxHeartbeats 4000000
/-! super().__init__(user), then a field, in an own class's __init__. -/
namespace K31
open PySem PySem.Spec PyProof.Rows L2 He NdefX ClX
/-- what the head tells of such an __init__ at f; g: the base's __init__ -/
structure SupD (P : Program) (K : PySem.W.Frag) (mg : Str → Option Value) (qual : Str) (params : Arguments) (body : List Stmt) (scope : Scope) (C f g : Addr) (fd : FuncData) : Prop where
  ex : ∃ (oc : Value) (od : Option Addr) (doc pm ct : Value) (osl : Array (Option Value)) (cc cda : Addr), fd = PySem.W.fnX "__init__" qual params body scope [("__class__", cc)] .none .none doc pm none (.ref cda) ct ∧ K.lookup f = some ⟨oc, od, .func fd, osl⟩ ∧ PySem.W.codeIn K (.ref cda) qual = true ∧
    (∃ (ccl : Value) (cdd : Option Addr) (vs : Array Value) (ccs : Array (Option Value)) (file : Str) (tf : Tok), K.lookup cda = some ⟨ccl, cdd, .fields vs, ccs⟩ ∧ vs[2]? = some (.str file tf) ∧ ((P.main.file : Str) == file) = true) ∧
    (∃ (cl : Value) (cld : Option Addr) (csl : Array (Option Value)), K.lookup cc = some ⟨cl, cld, .cell (some (.ref C)), csl⟩)
  cls : ∃ cd, PySem.W.clsIn K C = some cd
  sub : PySem.W.mroIn K C (.ref C) = some true
  sup : mg "super" = none
  top : (P.main.scope.names.lookup ("super" : Str)).isSome = false
  opq : PySem.W.nsIn K PySem.cStatics "thirdparty.any" = some none
  fnd : PySem.W.ks_superIn K C C "__init__" = some (some (.ref g))
  ty : PySem.W.typeIn K (.ref g) = some (.type "function")
  fn : PySem.W.fnIn K g = true
abbrev supNF (qual : Str) (params : Arguments) (body : List Stmt) (scope : Scope) (cc cda : Addr) : NF := ⟨"__init__", qual, params, body, scope, [("__class__", cc)], cda⟩
section
variable {P : Program} {w : World} {K : PySem.W.Frag} {mg : Str → Option Value} {base : Heap} {N : List Str} {qual : Str} {params : Arguments} {scope : Scope} {C f g : Addr} {fd : FuncData} {k : Nat} {sp spB : Sp} {p0 p1 p2 apos pos pe : Pos} {st2 : Stmt} {flag : Str}
theorem sup_ok {t2 : TS} {body : List Stmt} (hbd : body = .Expr (.Call (.Attribute (.Call (.Name "super" p0) [] [] p1) "__init__" apos) [.Name "user" p2] [] pos) pe :: [st2]) (S : SupD P K mg qual params body scope C f g fd) (hS : NScope N ["self", "user", "name"] ["__class__"] scope) (hsup : scope.names.lookup ("super" : Str) = some .globalImplicit) (hcls : scope.names.lookup ("__class__" : Str) = some .free) (hself : scope.names.lookup ("self" : Str) = some .local)
    {pl : Sem Bool} (he : ∀ env : Env, eval (.Call (.Attribute (.Call (.Name "super" p0) [] [] p1) "__init__" apos) [.Name "user" p2] [] pos) env = (do
      let ov ← attributeBase (.Call (.Name "super" p0) [] [] p1) "__init__" env (eval (.Call (.Name "super" p0) [] [] p1) env)
      standAt apos.atName
      let (f, first) ← holding [ov] (getMethod ov "__init__" pl)
      callWith pos f first (backTo pos (starEach [.Name "user" p2] env)) []))
    (hsw : ∀ env : Env, swapsWith (.Call (.Attribute (.Call (.Name "super" p0) [] [] p1) "__init__" apos) [.Name "user" p2] [] pos) none pe.line env = pure false)
    (hint : ∀ env : Env, env.scope = scope → interactive env = false)
    {ar : Arg} (har : (params.posonlyargs ++ params.args).head? = some ar) (har2 : ar.arg = "self") (F : FnR P w K mg base CX0 k g spB)
    (len : ∀ vs H Q E, sp vs H Q E → vs.length = 3)
    (h1 : ∀ (cc cda : Addr) (A : Around) (outer : List Env) (s : Shared) (H : Hp) (E : XK), PA (ncx CX0 P w K mg base N (supNF qual params body scope cc cda) f A outer s H E) [.Name "user" p2] (tCons (tVar 1) tNil))
    (h2 : ∀ (cc cda : Addr) (A : Around) (outer : List Env) (s : Shared) (H : Hp) (E : XK), PSs (ncx CX0 P w K mg base N (supNF qual params body scope cc cda) f A outer s H E) [st2] t2)
    (hsp : ∀ vs H Q E, sp vs H Q E → ∃ (p : Addr) (dx : Addr) (fs : List (Str × V)) (u n : V), vs = [.ref p, u, n] ∧ H p = some (.ins C dx fs) ∧ spB [.ref p, u] H (fun v H' => t2 { nx := fun _ H' => Q .non H', rt := Q } (startF N vs [none]) H') C8.E0 ∧ (startF N vs [none])[1]? = some (some u)) :
    FnOk P w K mg base CX0 (k + 1) f fd ["self", "user", "name"] sp := by
  obtain ⟨oc, od, doc, pm, ct, osl, cc, cda, rfl, lk, hcd, ⟨ccl, cdd, vs2, ccs, file, tf, lc, hvs, hfile⟩, cl, cld, csl, lcell⟩ := S.ex
  refine ⟨len, fun A outer s H args us vs Q E hr e0 hb r h => ?_⟩
  have hl := len _ _ _ _ h
  have KX : K.In s.heap := e0.mod.kin.keeps fun b o e => (e0.bs b o e).1
  have lim : s.heap.NoLimit := e0.mod.nolimit.keeps fun b o e => (e0.bs b o e).1
  let FN : NF := supNF qual params body scope cc cda
  have hbase : base.get? cc = some ⟨cl, cld, .cell (some (.ref C)), csl⟩ := e0.mod.kin _ _ lcell
  have one : ∀ {y : Str} {c : Addr}, ([("__class__", cc)] : List (Str × Addr)).lookup y = some c → y = "__class__" ∧ c = cc := fun {y c} e => by
    unfold List.lookup at e
    split at e
    · rename_i hy
      exact ⟨by simpa using hy, (Option.some.inj e).symm⟩
    · cases e
  have hcells : CellsAt [("__class__", cc)] ["__class__"] [none] s.heap H := by
    refine ⟨rfl, fun y c e => ?_, fun x y c e1 e2 => (one e1).1.trans (one e2).1.symm, fun i y e => ?_⟩
    · rw [(one e).2]
      exact ⟨(e0.bs _ _ hbase).2, some (.ref C), _, (e0.bs _ _ hbase).1, rfl⟩
    · match i, e with
      | 0, e =>
        have : ("__class__" : Str) = y := Option.some.inj e
        subst this
        exact ⟨cc, rfl, fun v e => by cases e⟩
      | i + 1, e => simp at e
  refine ks_codeAny_call_defAt hr.depth (KX _ _ lk) rfl lim (PySem.W.codeRec_of KX hcd) rfl hb hS.nocell (fun ⟨n, _⟩ hy => hS.par n (List.of_mem_zip hy).1) (fun h₁ hns kp => ?_) hS.co hS.gen hS.kind
  have I0 : Inv (ncx CX0 P w K mg base N FN f A outer s H E) [] (startF N vs [none]) H { s with heap := h₁, toks := s.toks + (["self", "user", "name"].zip us).length } := inv_startN (F := FN) hS hr.hd e0 hl r hcells hns kp
  show PySem.wpAt (model P w) (A.deeper (envF FN f s.heap.objs.size)) (.func FN.body (envF FN f s.heap.objs.size)) (execs body (envF FN f s.heap.objs.size)) _ _ _
  obtain ⟨p, dx, fs, u, n, rfl, hp, hq, hu1⟩ := hsp _ _ _ _ h
  rw [hbd]
  have K1 : K.In h₁ := KX.keeps kp
  refine ks_wpAt_execs_cons (ks_wpAt_Expr_any (ks_wpAt_MethodCall ?_ (he _)) (hint _ rfl) (hsw _))
  refine ks_wpAt_super_base (env := envF FN f s.heap.objs.size) hsup hcls rfl rfl (K1 _ _ lk) rfl har rfl (K1 _ _ lc) rfl hvs hfile S.top ?_
  obtain ⟨mb, hb1, hb2⟩ := I0.mod.blt
  refine PySem.W.ks_loadName_global hS.kind hsup (Calls.loadGlobal_builtin (I0.mod.glob.keeps I0.bk) S.sup (hb1.keeps I0.bk) ((hb2 "super" (by decide)).trans rfl) ⟨rfl, ?_⟩)
  refine wpAny_loadName_free hS.kind hcls rfl ⟨_, K1 _ _ lcell, rfl⟩ ?_
  obtain ⟨u1, u2, u3, rfl, r1, r2, r3⟩ : ∃ u1 u2 u3, us = [u1, u2, u3] ∧ RelV (.ref p) u1 ∧ RelV u u2 ∧ RelV n u3 := by
    cases r with
    | cons a b =>
      obtain ⟨x, y, rfl, e1, e2⟩ := vals2 b
      exact ⟨_, _, _, rfl, a, e1, e2⟩
  obtain rfl : u1 = Value.ref p := r1
  rw [har2]
  refine wpAny_loadName_local hS.kind hself hns rfl ?_
  obtain ⟨cdD, hcd1⟩ := S.cls
  obtain ⟨oD, hD1, hD2⟩ : ∃ oD, h₁.get? C = some oD ∧ oD.data = .cls cdD := by
    have hD := hcd1
    unfold PySem.W.clsIn at hD
    split at hD
    · rename_i c d cd' sl ho
      cases hD
      exact ⟨_, K1 _ _ ho, rfl⟩
    · cases hD
  obtain ⟨mA, O, _, _, _, _⟩ := ins_get I0.hok hp
  obtain ⟨odx, J, _⟩ := O.look
  refine ks_wpAny_isType_cls hD1 hD2 ⟨rfl, ?_⟩
  refine ks_wpAny_call_super hD1 hD2 J.at_ J.cls (fun c e => by cases e) (PySem.W.looks_mroIn K1 S.sub) (fun h' eso kp' => ?_)
  have I1 := I0.kept (t' := s.toks + (["self", "user", "name"].zip [Value.ref p, u2, u3]).length) kp'
  have K2 : K.In h' := K1.keeps kp'
  have hpC : p ≠ C := PySem.W.ks_ne K1 J hcd1
  have hf2 : PySem.W.alongIn K "__init__" ((cdD.mro.dropWhile (· != .ref C)).drop 1) = some (some (.ref g)) := by
    have := S.fnd
    unfold PySem.W.ks_superIn at this
    rw [hcd1] at this
    exact this
  obtain ⟨og, hog, hogc⟩ : ∃ og, h'.get? g = some og ∧ og.cls = .type "function" := by
    have ht' : (K.lookup g).map (·.cls) = some (.type "function") := S.ty
    cases z : K.lookup g with
    | none => rw [z] at ht'; cases ht'
    | some og => rw [z] at ht'; exact ⟨og, K2 _ _ z, Option.some.inj ht'⟩
  refine ks_wpAny_getMethod_super eso (PySem.W.looks_opaque K2 S.opq) (l₀ := cdD.mro) ((PySem.W.looks_clsIn K2 hcd1).andThen (f := fun cd => pure cd.mro) .now) rfl K2 hf2 hog hogc hpC rfl ?_
  have I2 := met_new (g := g) (C := p) I1
  have hbN := base_none I1 (Nat.le_refl _)
  refine callwith_cm (C := p) I2 hbN S.fn (thn ((h1 cc cda A outer s H E).run pos _ _ _ H (fun vs H2 => vs = [u] ∧ H2 = H) I2 ⟨u, hu1, rfl, rfl⟩) fun us3 s3 ⟨vs3, H3, I3, rv, ev, eH⟩ => ⟨⟨pin_at I3, I3.kIn⟩, ?_⟩) rfl rfl
  subst ev eH
  refine thn (run_cm (E := C8.E0) F (hr.deeper _) pass0 I3 rv hq) fun u4 s4 ⟨v4, H4, I4, rv4, q4⟩ => ?_
  show PySem.wpAt (model P w) (A.deeper (envF FN f s.heap.objs.size)) (.func FN.body (envF FN f s.heap.objs.size)) (execs [st2] (envF FN f s.heap.objs.size)) _ _ s4
  have fin : ∀ {σ' : L2.St} {H' : Hp} {v : V} {u' : Value} {s' : Shared}, Inv (ncx CX0 P w K mg base N FN f A outer s H3 E) [] σ' H' s' → L2.RelV v u' → Q v H' → CE outer P w H3 s Q u' s' :=
    fun {σ' H' v u' s'} J rv q => ⟨v, H', J.os, J.bare, J.base, J.hok, rv, q⟩
  refine wpAt_of_wpAny (wpAny_mono ((h2 cc cda A outer s H3 E).run [] s4 _ H4 _ I4 q4) (fun fl s' hs => ?_) fun e s' hs => hs)
  cases fl with
  | ret u' =>
    obtain ⟨v, σ', H', J, rv, q⟩ := hs
    exact fin J rv q
  | next =>
    obtain ⟨σ', H', J, q⟩ := hs
    exact fin (v := V.non) (u' := Value.none) J rfl q
  | brk =>
    obtain ⟨_, _, _, q⟩ := hs
    exact False.elim q
  | cont =>
    obtain ⟨_, _, _, q⟩ := hs
    exact False.elim q
end
end K31
set_option Elab.async false
set_option linter.all false
set_option maxRecDepth 100000
set_option maxHeartbeats 4000000
namespace K31
open PySem PySem.Spec PyProof.Rows L2 He NdefX
open C8 (Cal Met Mak pe_c pe_mk pe_mt pe_mt0 pe_gc)
abbrev mMust_init : Stmt := inClass (top 34) 0
abbrev mNever_init : Stmt := inClass (top 35) 0
/-- what the head must tell besides: the __init__s that say super() -/
structure TxtS (P : Program) (K : PySem.W.Frag) (mg : Str → Option Value) : Prop where
  s_Must : ∃ fd, SupD P K mg "Must.__init__" (defArgs mMust_init) (defBody mMust_init) (defScope mMust_init) (ga K "Must") (ma K (ga K "Must") "__init__") (ma K (ga K "Pin") "__init__") fd
  s_Never : ∃ fd, SupD P K mg "Never.__init__" (defArgs mNever_init) (defBody mNever_init) (defScope mNever_init) (ga K "Never") (ma K (ga K "Never") "__init__") (ma K (ga K "Pin") "__init__") fd
section
variable {P : Program} {w : World} {K : PySem.W.Frag} {mg : Str → Option Value} {base : Heap}
/-! ### Pin.__init__ -/
def sp_Pin_init (K : PySem.W.Frag) : Sp := fun vs H Q _ => ∃ (p C dx : Addr) (u : V), vs = [.ref p, u] ∧ H p = some (.ins C dx []) ∧ Cls K C ∧ NoAttr K C "who" ∧ Q .non (upd H p (.ins C dx [("who", u)]))
abbrev n_Pin_init : List Str := ["self", "user"]
theorem sc_Pin_init : FnScope n_Pin_init ["self", "user"] (defScope mPin_init) := ⟨rfl, rfl, rfl, by decide +kernel, rfl, by decide +kernel, by decide +kernel⟩
theorem fn_Pin_init (T : Txt K mg) : ∃ fd, FnOk P w K mg base CX0 1 (ma K (ga K "Pin") "__init__") fd ["self", "user"] (sp_Pin_init K) ∧ Binds K fd ["self", "user"] [] := by
  obtain ⟨fd, F⟩ := T.f_Pin_init
  refine ⟨fd, F.ok sc_Pin_init (fun vs H Q E h => ?_) (fun cdv A outer s H vs Q E hr h => ?_), F.bindsN fun _ _ _ _ _ _ us hl => match us, hl with | [_, _], _ => rfl⟩
  · obtain ⟨p, C, dx, u, rfl, _⟩ := h
    rfl
  · obtain ⟨p, C, dx, u, rfl, hp, c, n, k⟩ := h
    have main : ∃ t, PSs (cxOf CX0 P w K mg base n_Pin_init "Pin.__init__" (defScope mPin_init) (ma K (ga K "Pin") "__init__") cdv A outer s H E).nox (defBody mPin_init) t ∧ t { nx := fun _ H' => Q .non H', rt := Q } (L2.start n_Pin_init [.ref p, u]) H := by
      refine ⟨_, (pss_one (ps_fld (pv 0) (pv 1) rfl)), ?_⟩
      exact ⟨_, rfl, _, rfl, p, C, dx, [], rfl, hp, c, n, by decide, k⟩
    obtain ⟨t, h1, h2⟩ := main
    exact ⟨t, h1.nox, h2⟩
def sp_Stay_init (K : PySem.W.Frag) : Sp := fun vs H Q _ => ∃ (p dx : Addr) (u : Nat), vs = [.ref p, .int (u : Nat)] ∧ H p = some (.ins (ga K "Stay") dx []) ∧ Q .non (upd H p (.ins (ga K "Stay") dx [("who", .int (u : Nat))]))
theorem mk_Stay (T : Txt K mg) : Mak P w K mg base 1 "Stay" (ga K "Stay") (sp_Stay_init K) [] := by
  obtain ⟨fd, F, b⟩ := fn_Pin_init (P := P) (w := w) (base := base) T
  refine ⟨_, fd, _, [], T.k_Stay, F.imp fun vs H Q E ⟨p, dx, u, e, hp, k⟩ => ⟨p, _, dx, _, e, hp, T.c_Stay, T.a_Stay_who, k⟩, T.g_Stay, b, .nil⟩
def sp_Must_init (K : PySem.W.Frag) : Sp := fun vs H Q _ => ∃ (p dx : Addr) (u : Nat) (x : Str), vs = [.ref p, .int (u : Nat), .str x] ∧ H p = some (.ins (ga K "Must") dx []) ∧ ∀ H', (∀ b o, b ≠ p → H b = some o → H' b = some o) → H' p = some (.ins (ga K "Must") dx [("who", .int (u : Nat)), ("wanted_flag", .str x)]) → Q .non H'
def sp_Never_init (K : PySem.W.Frag) : Sp := fun vs H Q _ => ∃ (p dx : Addr) (u : Nat) (x : Str), vs = [.ref p, .int (u : Nat), .str x] ∧ H p = some (.ins (ga K "Never") dx []) ∧ ∀ H', (∀ b o, b ≠ p → H b = some o → H' b = some o) → H' p = some (.ins (ga K "Never") dx [("who", .int (u : Nat)), ("barred_flag", .str x)]) → Q .non H'
abbrev n_sup : List Str := ["self", "user", "name", "__class__"]
theorem mk_Must (T : Txt K mg) (S : TxtS P K mg) : Mak P w K mg base 2 "Must" (ga K "Must") (sp_Must_init K) [] := by
  obtain ⟨fp, Fp, bp⟩ := fn_Pin_init (P := P) (w := w) (base := base) T
  obtain ⟨fd, S⟩ := S.s_Must
  refine ⟨_, fd, ["self", "user", "name"], [], T.k_Must, ?_, T.g_Must, ?_, .nil⟩
  · refine sup_ok (N := n_sup) (t2 := sFld K (tVar 0) (tVar 2) "wanted_flag") rfl S (nscope_by (by decide +kernel)) rfl rfl rfl (pl := _) (fun _ => rfl) (fun _ => rfl) (fun env h => by unfold interactive; rw [h]; rfl) (ar := _) rfl rfl (Fp.raw bp .nil) (fun vs H Q E h => ?_) (fun cc cda A outer s H E => pa_cons (pv 1) pa_nil) (fun cc cda A outer s H E => pss_one (ps_fld (pv 0) (pv 2) rfl)) (fun vs H Q E h => ?_)
    · obtain ⟨p, dx, u, x, rfl, _⟩ := h
      rfl
    · obtain ⟨p, dx, u, x, rfl, hp, k⟩ := h
      refine ⟨p, dx, [], _, _, rfl, hp, ⟨p, _, dx, _, rfl, hp, T.c_Must, T.a_Must_who, ?_⟩, rfl⟩
      refine ⟨_, rfl, _, rfl, p, _, dx, _, rfl, upd_same, T.c_Must, T.a_Must_wanted_flag, by show 1 < 1000; decide, ?_⟩
      refine k _ (fun b o hb e => (upd_ne hb).trans ((upd_ne hb).trans e)) ?_
      rw [upd_same]
      rfl
  · obtain ⟨oc, od, doc, pm, ct, osl, cc, cda, rfl, _⟩ := S.ex
    exact Binds.all fun us hl => match us, hl with | [_, _, _], _ => rfl
theorem mk_Never (T : Txt K mg) (S : TxtS P K mg) : Mak P w K mg base 2 "Never" (ga K "Never") (sp_Never_init K) [] := by
  obtain ⟨fp, Fp, bp⟩ := fn_Pin_init (P := P) (w := w) (base := base) T
  obtain ⟨fd, S⟩ := S.s_Never
  refine ⟨_, fd, ["self", "user", "name"], [], T.k_Never, ?_, T.g_Never, ?_, .nil⟩
  · refine sup_ok (N := n_sup) (t2 := sFld K (tVar 0) (tVar 2) "barred_flag") rfl S (nscope_by (by decide +kernel)) rfl rfl rfl (pl := _) (fun _ => rfl) (fun _ => rfl) (fun env h => by unfold interactive; rw [h]; rfl) (ar := _) rfl rfl (Fp.raw bp .nil) (fun vs H Q E h => ?_) (fun cc cda A outer s H E => pa_cons (pv 1) pa_nil) (fun cc cda A outer s H E => pss_one (ps_fld (pv 0) (pv 2) rfl)) (fun vs H Q E h => ?_)
    · obtain ⟨p, dx, u, x, rfl, _⟩ := h
      rfl
    · obtain ⟨p, dx, u, x, rfl, hp, k⟩ := h
      refine ⟨p, dx, [], _, _, rfl, hp, ⟨p, _, dx, _, rfl, hp, T.c_Never, T.a_Never_who, ?_⟩, rfl⟩
      refine ⟨_, rfl, _, rfl, p, _, dx, _, rfl, upd_same, T.c_Never, T.a_Never_barred_flag, by show 1 < 1000; decide, ?_⟩
      refine k _ (fun b o hb e => (upd_ne hb).trans ((upd_ne hb).trans e)) ?_
      rw [upd_same]
      rfl
  · obtain ⟨oc, od, doc, pm, ct, osl, cc, cda, rfl, _⟩ := S.ex
    exact Binds.all fun us hl => match us, hl with | [_, _, _], _ => rfl
end
end K31
set_option Elab.async false
set_option linter.all false
set_option maxRecDepth 100000
set_option maxHeartbeats 4000000
namespace K31
open PySem PySem.Spec PyProof.Rows L2 He
open C8 (Cal Met Mak pe_c pe_mk pe_mt pe_mt0 pe_gc)
section
variable {P : Program} {w : World} {K : PySem.W.Frag} {mg : Str → Option Value} {base : Heap}
/-! ### _law_pin -/
def sp_law_pin (K : PySem.W.Frag) : Sp := fun vs H Q _ => ∃ (a : Addr) (t : Told), vs = [.ref a] ∧ LTold H a t ∧ ∀ (q : Addr) (H' : Hp), H q = none → Sub H H' → PinAt K H' q t → Q (.ref q) H'
abbrev n_law_pin : List Str := ["_law_told"]
theorem sc_law_pin : FnScope n_law_pin ["_law_told"] (defScope s_law_pin) := ⟨rfl, rfl, rfl, by decide +kernel, rfl, by decide +kernel, by decide +kernel⟩
theorem ok_law_pin (T : Txt K mg) (S : TxtS P K mg) : Cal P w K mg base 4 "_law_pin" (sp_law_pin K) [] := by
  refine cal_of T.f__law_pin T.g__law_pin sc_law_pin (fun vs H Q E h => ?_) (fun _ _ _ _ _ _ us hl => match us, hl with | [_], _ => rfl) (fun f cdv A outer s H vs Q E hr h => ?_)
  · obtain ⟨a, t, rfl, _⟩ := h
    rfl
  · obtain ⟨a, t, rfl, ha, k⟩ := h
    refine ⟨_, (pss_cons (ps_if (pt_cmpR op_eq (pe_ix ix_tup (pv 0) pe_int (fun _ _ => rfl)) pe_str (nomark _)) (pss_one (ps_ret (pe_mk (mk_Stay T) hr (by decide) rfl (pa_cons (pe_ix ix_tup (pv 0) pe_int (fun _ _ => rfl)) pa_nil)))) pss_nil)
  (pss_one (ps_ret (pe_ifExp (pt_cmpR op_eq (pe_ix ix_tup (pv 0) pe_int (fun _ _ => rfl)) pe_str (nomark _)) (pe_mk (mk_Must T S) hr (by decide) rfl (pa_cons (pe_ix ix_tup (pv 0) pe_int (fun _ _ => rfl)) (pa_cons (pe_ix ix_tup (pv 0) pe_int (fun _ _ => rfl)) pa_nil))) (pe_mk (mk_Never T S) hr (by decide) rfl (pa_cons (pe_ix ix_tup (pv 0) pe_int (fun _ _ => rfl)) (pa_cons (pe_ix ix_tup (pv 0) pe_int (fun _ _ => rfl)) pa_nil))))))), ?_⟩
    cases t with
    | must u x =>
      refine ⟨_, rfl, a, _, ((0 : Nat) : Int), _, rfl, rfl, SqT.of ha, by rw [atI_n]; rfl, rfl, _, rfl, ?_⟩
      refine rd_ite (fun z => absurd z (by decide)) (fun _ => ?_)
      refine ⟨_, rfl, a, _, ((0 : Nat) : Int), _, rfl, rfl, SqT.of ha, by rw [atI_n]; rfl, rfl, _, rfl, ?_⟩
      refine rd_ite (fun _ => ?_) (fun z => absurd z (by decide))
      refine ⟨_, rfl, a, _, ((1 : Nat) : Int), _, rfl, rfl, SqT.of ha, by rw [atI_n]; rfl, _, rfl, a, _, ((2 : Nat) : Int), _, rfl, rfl, SqT.of ha, by rw [atI_n]; rfl, fun q dx nq nd ne => ?_⟩
      have s1 : Sub H (upd (upd H dx (.own q)) q (.ins (ga K "Must") dx [])) := (Sub.new nd).mut nq
      exact ⟨q, dx, u, x, rfl, upd_same, fun H' h1 h2 => ⟨rfl, k q H' nq (fun b o e => h1 b o (ne_of_none e nq) (s1 b o e)) ⟨dx, h2⟩⟩⟩
    | never u x =>
      refine ⟨_, rfl, a, _, ((0 : Nat) : Int), _, rfl, rfl, SqT.of ha, by rw [atI_n]; rfl, rfl, _, rfl, ?_⟩
      refine rd_ite (fun z => absurd z (by decide)) (fun _ => ?_)
      refine ⟨_, rfl, a, _, ((0 : Nat) : Int), _, rfl, rfl, SqT.of ha, by rw [atI_n]; rfl, rfl, _, rfl, ?_⟩
      refine rd_ite (fun z => absurd z (by decide)) (fun _ => ?_)
      refine ⟨_, rfl, a, _, ((1 : Nat) : Int), _, rfl, rfl, SqT.of ha, by rw [atI_n]; rfl, _, rfl, a, _, ((2 : Nat) : Int), _, rfl, rfl, SqT.of ha, by rw [atI_n]; rfl, fun q dx nq nd ne => ?_⟩
      have s1 : Sub H (upd (upd H dx (.own q)) q (.ins (ga K "Never") dx [])) := (Sub.new nd).mut nq
      exact ⟨q, dx, u, x, rfl, upd_same, fun H' h1 h2 => ⟨rfl, k q H' nq (fun b o e => h1 b o (ne_of_none e nq) (s1 b o e)) ⟨dx, h2⟩⟩⟩
    | stay u =>
      refine ⟨_, rfl, a, _, ((0 : Nat) : Int), _, rfl, rfl, SqT.of ha, by rw [atI_n]; rfl, rfl, _, rfl, ?_⟩
      refine rd_ite (fun _ => ?_) (fun z => absurd z (by decide))
      refine ⟨_, rfl, a, _, ((1 : Nat) : Int), _, rfl, rfl, SqT.of ha, by rw [atI_n]; rfl, fun q dx nq nd ne => ?_⟩
      have s1 : Sub H (upd (upd H dx (.own q)) q (.ins (ga K "Stay") dx [])) := (Sub.new nd).mut nq
      refine ⟨q, dx, u, rfl, upd_same, rfl, k q _ nq (s1.mut nq) ⟨dx, upd_same⟩⟩
end
end K31
set_option Elab.async false
set_option linter.all false
set_option maxRecDepth 100000
set_option maxHeartbeats 4000000
/-! transfer and is_crowd, however they are called. -/
namespace K31
open PySem PySem.Spec PyProof.Rows L2 He StX
theorem bt1 (kV doc pm : Value) (an : Option Addr) (cdv ct a b v : Value) : ∀ rest : List Value, bindArgs (PySem.W.fnOf "transfer" "transfer" (defArgs stransfer) (defBody stransfer) (defScope stransfer) .none kV doc pm an cdv ct) ⟨a :: b :: rest, [("forest", v)]⟩ = (newTuple rest >>= fun t => pure [(("assignment" : Str), a), ("new", b), ("forest", v), ("pins", t)])
  | [] => rfl
  | r :: rs => rfl
theorem bt0 (D : Addr) (doc pm : Value) (an : Option Addr) (cdv ct a b u : Value) (r : Value) (rs : List Value) :
   ∃ (β γ : Type) (k1 : Option Value → Sem β) (k2 : β → Sem γ) (k3 : γ → Sem (List (Str × Value))) (x : β), bindArgs (PySem.W.fnOf "transfer" "transfer" (defArgs stransfer) (defBody stransfer) (defScope stransfer) .none (.ref D) doc pm an cdv ct) ⟨a :: b :: r :: rs, []⟩ = ((nsGet D "forest" >>= k1) >>= k2) >>= k3 ∧ k1 (some u) = pure x ∧ (k2 x >>= k3) = (newTuple (r :: rs) >>= fun t => pure [(("assignment" : Str), a), ("new", b), ("forest", u), ("pins", t)]) :=
  ⟨_, _, _, _, _, _, rfl, rfl, rfl⟩
theorem bc1 (kV doc pm : Value) (an : Option Addr) (cdv ct a b c v : Value) : ∀ rest : List Value, bindArgs (PySem.W.fnOf "is_crowd" "is_crowd" (defArgs sis_crowd) (defBody sis_crowd) (defScope sis_crowd) .none kV doc pm an cdv ct) ⟨a :: b :: c :: rest, [("forest", v)]⟩ = (newTuple rest >>= fun t => pure [(("assignment" : Str), a), ("new", b), ("users", c), ("forest", v), ("pins", t)])
  | [] => rfl
  | r :: rs => rfl
theorem bc0 (D : Addr) (doc pm : Value) (an : Option Addr) (cdv ct a b c u : Value) (r : Value) (rs : List Value) :
   ∃ (β γ : Type) (k1 : Option Value → Sem β) (k2 : β → Sem γ) (k3 : γ → Sem (List (Str × Value))) (x : β), bindArgs (PySem.W.fnOf "is_crowd" "is_crowd" (defArgs sis_crowd) (defBody sis_crowd) (defScope sis_crowd) .none (.ref D) doc pm an cdv ct) ⟨a :: b :: c :: r :: rs, []⟩ = ((nsGet D "forest" >>= k1) >>= k2) >>= k3 ∧ k1 (some u) = pure x ∧ (k2 x >>= k3) = (newTuple (r :: rs) >>= fun t => pure [(("assignment" : Str), a), ("new", b), ("users", c), ("forest", u), ("pins", t)]) :=
  ⟨_, _, _, _, _, _, rfl, rfl, rfl⟩
theorem bck (D : Addr) (doc pm : Value) (an : Option Addr) (cdv ct a b c u : Value) :
   ∃ (β γ : Type) (k1 : Option Value → Sem β) (k2 : β → Sem γ) (k3 : γ → Sem (List (Str × Value))) (x : β), bindArgs (PySem.W.fnOf "is_crowd" "is_crowd" (defArgs sis_crowd) (defBody sis_crowd) (defScope sis_crowd) .none (.ref D) doc pm an cdv ct) ⟨[], [("users", c), ("new", b), ("assignment", a)]⟩ = ((nsGet D "forest" >>= k1) >>= k2) >>= k3 ∧ k1 (some u) = pure x ∧ (k2 x >>= k3) = (newTuple [] >>= fun t => pure [(("assignment" : Str), a), ("new", b), ("users", c), ("forest", u), ("pins", t)]) :=
  ⟨_, _, _, _, _, _, rfl, rfl, rfl⟩
theorem wp_dfl {M : Model} {A : Around} {Q : List (Str × Value) → Shared → Prop} {E : Value → Shared → Prop} {s : Shared} {K : PySem.W.Frag} {D : Addr} {u : Value} {β γ : Type} {k1 : Option Value → Sem β} {k2 : β → Sem γ} {k3 : γ → Sem (List (Str × Value))} {x : β} {m : Sem (List (Str × Value))}
    (KX : K.In s.heap) (hn : PySem.W.nsIn K D "forest" = some (some u)) (e1 : m = ((nsGet D "forest" >>= k1) >>= k2) >>= k3) (e2 : k1 (some u) = pure x) (h : wpAny M A (k2 x >>= k3) Q E s) : wpAny M A m Q E s := by
  rw [e1, bind_assoc, bind_assoc]
  refine wpAny_bind ((PySem.W.looks_nsIn KX hn).here ?_)
  rw [e2, pure_bind]
  exact h
section
variable {P : Program} {w : World} {K : PySem.W.Frag} {mg : Str → Option Value} {base : Heap}
theorem vals_nil {us : List Value} (r : Vals [] us) : us = [] := by cases r; rfl
theorem vals_c {x : V} {xs : List V} {us : List Value} (r : Vals (x :: xs) us) : ∃ u ys, us = u :: ys ∧ RelV x u ∧ Vals xs ys := by
  cases r with
  | cons a b => exact ⟨_, _, rfl, a, b⟩
def G1 (vs zs gs rv : List V) : Prop := ∃ a b v, vs = a :: b :: rv ∧ zs = [v] ∧ gs = [a, b, v] ∧ rv.length ≤ 100
def G0 (vs zs gs rv : List V) : Prop := ∃ a b r rs, rv = r :: rs ∧ vs = a :: b :: rv ∧ zs = [] ∧ gs = [a, b, .non] ∧ rv.length ≤ 100
theorem kw_transfer1 (T : Txt K mg) : FnKw P w K mg base (L2.CX P w) 7 (ga K "transfer") ["forest"] (fun vs zs H Q E => ∃ gs rv, G1 vs zs gs rv ∧ ∀ p, H p = none → sp_transfer K (gs ++ [V.ref p]) (upd H p (.tup rv)) Q E) := by
  obtain ⟨fd, F⟩ := T.f_transfer
  obtain ⟨oc, od, dV, kV, doc, pm, an, cdv, ct, osl, rfl, lk, hcd, hdV, hkV⟩ := F.ex
  obtain rfl : dV = .none := hdV.elim (fun h => h.2) fun h => absurd rfl h.1
  refine fn_kw (ps := ["assignment", "new", "forest"]) (pv := "pins") lk hcd sc_transfer cxUp (fun s us ws vs zs gs rv KX r rz ⟨a, b, v, e1, e2, e3, e4⟩ => ?_) (fun A outer s H vs Q E hr h => body_transfer T _ _ A outer s H vs Q E hr h)
  subst e1 e2 e3
  obtain ⟨ua, us1, rfl, ra, r1⟩ := vals_c r
  obtain ⟨ub, ru, rfl, rb, r2⟩ := vals_c r1
  obtain ⟨uv, rfl, rv'⟩ := vals1 rz
  refine ⟨rfl, sz (by omega), [ua, ub, uv], ru, .cons ra (.cons rb (.cons rv' .nil)), r2, fun A' Q Ex h => ?_⟩
  show wpAny (model P w) A' (bindArgs _ ⟨ua :: ub :: ru, [("forest", uv)]⟩) Q Ex s
  rw [bt1]
  exact h
theorem kw_transfer0 (T : Txt K mg) : FnKw P w K mg base (L2.CX P w) 7 (ga K "transfer") [] (fun vs zs H Q E => ∃ gs rv, G0 vs zs gs rv ∧ ∀ p, H p = none → sp_transfer K (gs ++ [V.ref p]) (upd H p (.tup rv)) Q E) := by
  obtain ⟨fd, F⟩ := T.f_transfer
  obtain ⟨oc, od, dV, kV, doc, pm, an, cdv, ct, osl, rfl, lk, hcd, hdV, hkV⟩ := F.ex
  obtain rfl : dV = .none := hdV.elim (fun h => h.2) fun h => absurd rfl h.1
  obtain ⟨D, rfl, hD⟩ := hkV.resolve_left (by simp)
  obtain ⟨u0, hn, ru0⟩ := hD _ (List.mem_cons_self ..)
  refine fn_kw (ps := ["assignment", "new", "forest"]) (pv := "pins") lk hcd sc_transfer cxUp (fun s us ws vs zs gs rv KX r rz ⟨a, b, x, xs, e0, e1, e2, e3, e4⟩ => ?_) (fun A outer s H vs Q E hr h => body_transfer T _ _ A outer s H vs Q E hr h)
  subst e0 e1 e2 e3
  obtain ⟨ua, us1, rfl, ra, r1⟩ := vals_c r
  obtain ⟨ub, us2, rfl, rb, r2⟩ := vals_c r1
  obtain ⟨ux, ru, rfl, rx, r3⟩ := vals_c r2
  obtain rfl := vals_nil rz
  obtain ⟨β, γ, k1, k2, k3, x0, e1, e2, e3⟩ := bt0 D doc pm an cdv ct ua ub u0 ux ru
  refine ⟨rfl, sz (by omega), [ua, ub, u0], ux :: ru, .cons ra (.cons rb (.cons ru0 .nil)), .cons rx r3, fun A' Q Ex h => ?_⟩
  refine wp_dfl KX hn e1 e2 ?_
  rw [e3]
  exact h
def C1 (vs zs gs rv : List V) : Prop := ∃ a b c v, vs = a :: b :: c :: rv ∧ zs = [v] ∧ gs = [a, b, c, v] ∧ rv.length ≤ 100
def C0 (vs zs gs rv : List V) : Prop := ∃ a b c r rs, rv = r :: rs ∧ vs = a :: b :: c :: rv ∧ zs = [] ∧ gs = [a, b, c, .non] ∧ rv.length ≤ 100
def CK (vs zs gs rv : List V) : Prop := ∃ a b c, vs = [] ∧ rv = [] ∧ zs = [c, b, a] ∧ gs = [a, b, c, .non]
theorem kw_crowd1 (T : Txt K mg) : FnKw P w K mg base CX0 7 (ga K "is_crowd") ["forest"] (fun vs zs H Q E => ∃ gs rv, C1 vs zs gs rv ∧ ∀ p, H p = none → sp_is_crowd K (gs ++ [V.ref p]) (upd H p (.tup rv)) Q E) := by
  obtain ⟨fd, F⟩ := T.f_is_crowd
  obtain ⟨oc, od, dV, kV, doc, pm, an, cdv, ct, osl, rfl, lk, hcd, hdV, hkV⟩ := F.ex
  obtain rfl : dV = .none := hdV.elim (fun h => h.2) fun h => absurd rfl h.1
  refine fn_kw (ps := ["assignment", "new", "users", "forest"]) (pv := "pins") lk hcd sc_is_crowd cxUp_none (fun s us ws vs zs gs rv KX r rz ⟨a, b, c, v, e1, e2, e3, e4⟩ => ?_) (fun A outer s H vs Q E hr h => let ⟨t, h1, h2⟩ := body_is_crowd T _ _ A outer s H vs Q E hr h; ⟨t, h1.nox, h2⟩)
  subst e1 e2 e3
  obtain ⟨ua, us1, rfl, ra, r1⟩ := vals_c r
  obtain ⟨ub, us2, rfl, rb, r2⟩ := vals_c r1
  obtain ⟨uc, ru, rfl, rc, r3⟩ := vals_c r2
  obtain ⟨uv, rfl, rv'⟩ := vals1 rz
  refine ⟨rfl, sz (by omega), [ua, ub, uc, uv], ru, .cons ra (.cons rb (.cons rc (.cons rv' .nil))), r3, fun A' Q Ex h => ?_⟩
  show wpAny (model P w) A' (bindArgs _ ⟨ua :: ub :: uc :: ru, [("forest", uv)]⟩) Q Ex s
  rw [bc1]
  exact h
theorem kw_crowd0 (T : Txt K mg) : FnKw P w K mg base CX0 7 (ga K "is_crowd") [] (fun vs zs H Q E => ∃ gs rv, C0 vs zs gs rv ∧ ∀ p, H p = none → sp_is_crowd K (gs ++ [V.ref p]) (upd H p (.tup rv)) Q E) := by
  obtain ⟨fd, F⟩ := T.f_is_crowd
  obtain ⟨oc, od, dV, kV, doc, pm, an, cdv, ct, osl, rfl, lk, hcd, hdV, hkV⟩ := F.ex
  obtain rfl : dV = .none := hdV.elim (fun h => h.2) fun h => absurd rfl h.1
  obtain ⟨D, rfl, hD⟩ := hkV.resolve_left (by simp)
  obtain ⟨u0, hn, ru0⟩ := hD _ (List.mem_cons_self ..)
  refine fn_kw (ps := ["assignment", "new", "users", "forest"]) (pv := "pins") lk hcd sc_is_crowd cxUp_none (fun s us ws vs zs gs rv KX r rz ⟨a, b, c, x, xs, e0, e1, e2, e3, e4⟩ => ?_) (fun A outer s H vs Q E hr h => let ⟨t, h1, h2⟩ := body_is_crowd T _ _ A outer s H vs Q E hr h; ⟨t, h1.nox, h2⟩)
  subst e0 e1 e2 e3
  obtain ⟨ua, us1, rfl, ra, r1⟩ := vals_c r
  obtain ⟨ub, us2, rfl, rb, r2⟩ := vals_c r1
  obtain ⟨uc, us3, rfl, rc, r3⟩ := vals_c r2
  obtain ⟨ux, ru, rfl, rx, r4⟩ := vals_c r3
  obtain rfl := vals_nil rz
  obtain ⟨β, γ, k1, k2, k3, x0, e1, e2, e3⟩ := bc0 D doc pm an cdv ct ua ub uc u0 ux ru
  refine ⟨rfl, sz (by omega), [ua, ub, uc, u0], ux :: ru, .cons ra (.cons rb (.cons rc (.cons ru0 .nil))), .cons rx r4, fun A' Q Ex h => ?_⟩
  refine wp_dfl KX hn e1 e2 ?_
  rw [e3]
  exact h
theorem kw_crowdK (T : Txt K mg) : FnKw P w K mg base CX0 7 (ga K "is_crowd") ["users", "new", "assignment"] (fun vs zs H Q E => ∃ gs rv, CK vs zs gs rv ∧ ∀ p, H p = none → sp_is_crowd K (gs ++ [V.ref p]) (upd H p (.tup rv)) Q E) := by
  obtain ⟨fd, F⟩ := T.f_is_crowd
  obtain ⟨oc, od, dV, kV, doc, pm, an, cdv, ct, osl, rfl, lk, hcd, hdV, hkV⟩ := F.ex
  obtain rfl : dV = .none := hdV.elim (fun h => h.2) fun h => absurd rfl h.1
  obtain ⟨D, rfl, hD⟩ := hkV.resolve_left (by simp)
  obtain ⟨u0, hn, ru0⟩ := hD _ (List.mem_cons_self ..)
  refine fn_kw (ps := ["assignment", "new", "users", "forest"]) (pv := "pins") lk hcd sc_is_crowd cxUp_none (fun s us ws vs zs gs rv KX r rz ⟨a, b, c, e1, e2, e3, e4⟩ => ?_) (fun A outer s H vs Q E hr h => let ⟨t, h1, h2⟩ := body_is_crowd T _ _ A outer s H vs Q E hr h; ⟨t, h1.nox, h2⟩)
  subst e1 e2 e3 e4
  obtain rfl := vals_nil r
  obtain ⟨uc, w1, rfl, rc, z1⟩ := vals_c rz
  obtain ⟨ub, w2, rfl, rb, z2⟩ := vals_c z1
  obtain ⟨ua, w3, rfl, ra, z3⟩ := vals_c z2
  obtain rfl := vals_nil z3
  obtain ⟨β, γ, k1, k2, k3, x0, e1, e2, e3⟩ := bck D doc pm an cdv ct ua ub uc u0
  refine ⟨rfl, sz (by simp), [ua, ub, uc, u0], [], .cons ra (.cons rb (.cons rc (.cons ru0 .nil))), .nil, fun A' Q Ex h => ?_⟩
  refine wp_dfl KX hn e1 e2 ?_
  rw [e3]
  exact h
end
end K31
set_option Elab.async false
set_option linter.all false
set_option maxRecDepth 100000
set_option maxHeartbeats 4000000
namespace K31
open PySem PySem.Spec PyProof.Rows L2 He
open C8 (Cal Met Mak pe_c pe_mk pe_mt pe_mt0 pe_gc)
section
variable {P : Program} {w : World} {K : PySem.W.Frag} {mg : Str → Option Value} {base : Heap}
theorem kp_of {x qual : Str} {st : Stmt} {kws : List (Str × V)} {f : Addr} (F : FnP K x qual st kws f) : PySem.W.keepIn K (.ref f) = true := let ⟨_, F⟩ := F; F.kp
theorem len_yes {α : Type} {xs : List α} {c : Nat} {f : α → V} (h : decide (V.int ((xs.map f).length : Nat) = V.int (c : Int)) = true) : xs.length = c := by
  have := V.int.inj (of_decide_eq_true h)
  rw [List.length_map] at this
  omega
theorem len_no {α : Type} {xs : List α} {c : Nat} {f : α → V} (h : decide (V.int ((xs.map f).length : Nat) = V.int (c : Int)) = false) : xs.length ≠ c := fun e => by
  have := of_decide_eq_false h
  rw [List.length_map, e] at this
  exact this rfl
theorem len1 {α : Type} {ps : List α} (h : ps.length = 1) : ∃ e1, ps = [e1] := match ps, h with | [e1], _ => ⟨e1, rfl⟩
theorem len2 {α : Type} {ps : List α} (h : ps.length = 2) : ∃ e1 e2, ps = [e1, e2] := match ps, h with | [e1, e2], _ => ⟨e1, e2, rfl⟩
theorem len3 {α : Type} {ps : List α} (h : ps.length = 3) : ∃ e1 e2 e3, ps = [e1, e2, e3] := match ps, h with | [e1, e2, e3], _ => ⟨e1, e2, e3, rfl⟩
theorem len4 {α : Type} {ps : List α} (h : ps.length = 4) : ∃ e1 e2 e3 e4, ps = [e1, e2, e3, e4] := match ps, h with | [e1, e2, e3, e4], _ => ⟨e1, e2, e3, e4, rfl⟩
theorem len5 {α : Type} {ps : List α} (h : ps.length = 5) : ∃ e1 e2 e3 e4 e5, ps = [e1, e2, e3, e4, e5] := match ps, h with | [e1, e2, e3, e4, e5], _ => ⟨e1, e2, e3, e4, e5, rfl⟩
theorem len6 {α : Type} {ps : List α} (h : ps.length = 6) : ∃ e1 e2 e3 e4 e5 e6, ps = [e1, e2, e3, e4, e5, e6] := match ps, h with | [e1, e2, e3, e4, e5, e6], _ => ⟨e1, e2, e3, e4, e5, e6, rfl⟩
/-! ### _law_transfer -/
def sp_law_transfer (K : PySem.W.Frag) : Sp := fun vs H Q E => ∃ (a s L f g : Addr) (fv : V) (lp lg : List (Str × Str)) (sl : List (Str × Int)) (xs : List Str) (ps : Pins) (room : Str → Nat), vs = [.ref a, .ref s, .ref L, fv] ∧ AskOk K H a s f g lp lg sl xs ps room ∧ H L = some (.lst (ps.map fun e => V.ref e.1)) ∧ ps.length ≤ 6 ∧ ((fv = .non ∧ g = f) ∨ fv = .ref g) ∧
  (∀ (x : Addr) (H' : Hp) (gl : List Str), Sub H H' → (∃ dx fs, H' x = some (.ins (ga K "Transfer") dx fs)) → gl.length = xs.length → Good (costOf (rowsOf lp lg (ps.map (·.2)) xs)) room gl → Q (.ref x) H') ∧
  (∀ (H' : Hp) (d q : Addr) (S : List Nat), Sub H H' → H' d = some (.xd [("users", .ref q)]) → H' q = some (.tup (S.map fun i => .int (i : Nat))) → Asc S → S ≠ [] → (∀ u ∈ S, u < xs.length) → tooMany (places lg) room (costOf (rowsOf lp lg (ps.map (·.2)) xs)) S = true → E (.ref (ga K "Crowded")) (some d) H')
abbrev n_law_transfer : List Str := ["_law_start", "_law_sizes_here", "_law_some", "_law_web"]
theorem sc_law_transfer : FnScope n_law_transfer ["_law_start", "_law_sizes_here", "_law_some", "_law_web"] (defScope s_law_transfer) := ⟨rfl, rfl, rfl, by decide +kernel, rfl, by decide +kernel, by decide +kernel⟩
theorem ok_law_transfer (T : Txt K mg) : CalX P w K mg base 8 "_law_transfer" (sp_law_transfer K) := by
  refine calX_of T.f__law_transfer T.g__law_transfer sc_law_transfer (fun vs H Q E h => ?_) (fun _ _ _ _ _ _ us hl => match us, hl with | [_, _, _, _], _ => rfl) (fun f0 cdv A outer s0 H vs Q E hr h => ?_)
  · obtain ⟨a, s, L, f, g, fv, lp, lg, sl, xs, ps, room, rfl, _⟩ := h
    rfl
  · obtain ⟨a, s, L, f, g, fv, lp, lg, sl, xs, ps, room, rfl, A0, hL, h6, hfv, k, ke⟩ := h
    have htk : Takes (cxOf (L2.CX P w) P w K mg base n_law_transfer "_law_transfer" (defScope s_law_transfer) f0 cdv A outer s0 H E) (fun cls d _ H => E cls d H) := takes_of rfl rfl rfl rfl
    refine ⟨_, (pss_cons (ps_if (pt_cmpR op_eq (pe_callB c_lenL rfl T.n_len (by decide +kernel) (pa_cons (pv 2) pa_nil)) pe_int (nomark _)) (pss_one (ps_ret (pe_kw (kw_transfer1 T) hr (by decide) rfl T.g_transfer (kp_of T.f_transfer) (passes_call htk fun _ _ _ _ h => h) (pa_cons (pv 0) (pa_cons (pv 1) pa_nil)) (pk_cons (pv 3) pk_nil)))) pss_nil)
  (pss_cons (ps_if (PW.pt (pw_and (pt_cmpR op_eq (pe_callB c_lenL rfl T.n_len (by decide +kernel) (pa_cons (pv 2) pa_nil)) pe_int (nomark _)) (pw_and1 (pt_cmp (pc_isN (pv 3)))))) (pss_one (ps_ret (pe_kwN (kw_transfer0 T) hr (by decide) rfl T.g_transfer (kp_of T.f_transfer) (passes_call htk fun _ _ _ _ h => h) (pa_cons (pv 0) (pa_cons (pv 1) (pa_cons (pe_ix ix_list (pv 2) pe_int (fun _ _ => rfl)) pa_nil)))))) pss_nil)
  (pss_cons (ps_if (pt_cmpR op_eq (pe_callB c_lenL rfl T.n_len (by decide +kernel) (pa_cons (pv 2) pa_nil)) pe_int (nomark _)) (pss_one (ps_ret (pe_kw (kw_transfer1 T) hr (by decide) rfl T.g_transfer (kp_of T.f_transfer) (passes_call htk fun _ _ _ _ h => h) (pa_cons (pv 0) (pa_cons (pv 1) (pa_cons (pe_ix ix_list (pv 2) pe_int (fun _ _ => rfl)) pa_nil))) (pk_cons (pv 3) pk_nil)))) pss_nil)
  (pss_cons (ps_if (PW.pt (pw_and (pt_cmpR op_eq (pe_callB c_lenL rfl T.n_len (by decide +kernel) (pa_cons (pv 2) pa_nil)) pe_int (nomark _)) (pw_and1 (pt_cmp (pc_isN (pv 3)))))) (pss_one (ps_ret (pe_kwN (kw_transfer0 T) hr (by decide) rfl T.g_transfer (kp_of T.f_transfer) (passes_call htk fun _ _ _ _ h => h) (pa_cons (pv 0) (pa_cons (pv 1) (pa_cons (pe_ix ix_list (pv 2) pe_int (fun _ _ => rfl)) (pa_cons (pe_ix ix_list (pv 2) pe_int (fun _ _ => rfl)) pa_nil))))))) pss_nil)
  (pss_cons (ps_if (pt_cmpR op_eq (pe_callB c_lenL rfl T.n_len (by decide +kernel) (pa_cons (pv 2) pa_nil)) pe_int (nomark _)) (pss_one (ps_ret (pe_kw (kw_transfer1 T) hr (by decide) rfl T.g_transfer (kp_of T.f_transfer) (passes_call htk fun _ _ _ _ h => h) (pa_cons (pv 0) (pa_cons (pv 1) (pa_cons (pe_ix ix_list (pv 2) pe_int (fun _ _ => rfl)) (pa_cons (pe_ix ix_list (pv 2) pe_int (fun _ _ => rfl)) pa_nil)))) (pk_cons (pv 3) pk_nil)))) pss_nil)
  (pss_cons (ps_if (pt_cmpR op_eq (pe_callB c_lenL rfl T.n_len (by decide +kernel) (pa_cons (pv 2) pa_nil)) pe_int (nomark _)) (pss_one (ps_ret (pe_kw (kw_transfer1 T) hr (by decide) rfl T.g_transfer (kp_of T.f_transfer) (passes_call htk fun _ _ _ _ h => h) (pa_cons (pv 0) (pa_cons (pv 1) (pa_cons (pe_ix ix_list (pv 2) pe_int (fun _ _ => rfl)) (pa_cons (pe_ix ix_list (pv 2) pe_int (fun _ _ => rfl)) (pa_cons (pe_ix ix_list (pv 2) pe_int (fun _ _ => rfl)) pa_nil))))) (pk_cons (pv 3) pk_nil)))) pss_nil)
  (pss_cons (ps_if (pt_cmpR op_eq (pe_callB c_lenL rfl T.n_len (by decide +kernel) (pa_cons (pv 2) pa_nil)) pe_int (nomark _)) (pss_one (ps_ret (pe_kw (kw_transfer1 T) hr (by decide) rfl T.g_transfer (kp_of T.f_transfer) (passes_call htk fun _ _ _ _ h => h) (pa_cons (pv 0) (pa_cons (pv 1) (pa_cons (pe_ix ix_list (pv 2) pe_int (fun _ _ => rfl)) (pa_cons (pe_ix ix_list (pv 2) pe_int (fun _ _ => rfl)) (pa_cons (pe_ix ix_list (pv 2) pe_int (fun _ _ => rfl)) (pa_cons (pe_ix ix_list (pv 2) pe_int (fun _ _ => rfl)) pa_nil)))))) (pk_cons (pv 3) pk_nil)))) pss_nil)
  (pss_cons (ps_if (pt_cmpR op_eq (pe_callB c_lenL rfl T.n_len (by decide +kernel) (pa_cons (pv 2) pa_nil)) pe_int (nomark _)) (pss_one (ps_ret (pe_kw (kw_transfer1 T) hr (by decide) rfl T.g_transfer (kp_of T.f_transfer) (passes_call htk fun _ _ _ _ h => h) (pa_cons (pv 0) (pa_cons (pv 1) (pa_cons (pe_ix ix_list (pv 2) pe_int (fun _ _ => rfl)) (pa_cons (pe_ix ix_list (pv 2) pe_int (fun _ _ => rfl)) (pa_cons (pe_ix ix_list (pv 2) pe_int (fun _ _ => rfl)) (pa_cons (pe_ix ix_list (pv 2) pe_int (fun _ _ => rfl)) (pa_cons (pe_ix ix_list (pv 2) pe_int (fun _ _ => rfl)) pa_nil))))))) (pk_cons (pv 3) pk_nil)))) pss_nil)
  (pss_one (ps_ret (pe_kw (kw_transfer1 T) hr (by decide) rfl T.g_transfer (kp_of T.f_transfer) (passes_call htk fun _ _ _ _ h => h) (pa_cons (pv 0) (pa_cons (pv 1) (pa_cons (pe_ix ix_list (pv 2) pe_int (fun _ _ => rfl)) (pa_cons (pe_ix ix_list (pv 2) pe_int (fun _ _ => rfl)) (pa_cons (pe_ix ix_list (pv 2) pe_int (fun _ _ => rfl)) (pa_cons (pe_ix ix_list (pv 2) pe_int (fun _ _ => rfl)) (pa_cons (pe_ix ix_list (pv 2) pe_int (fun _ _ => rfl)) (pa_cons (pe_ix ix_list (pv 2) pe_int (fun _ _ => rfl)) pa_nil)))))))) (pk_cons (pv 3) pk_nil)))))))))))), ?_⟩
    have main : ∀ p, H p = none → sp_transfer K [.ref a, .ref s, fv, .ref p] (upd H p (.tup (ps.map fun e => V.ref e.1))) Q E := fun p np => by
      have sp : Sub H (upd H p (.tup (ps.map fun e => V.ref e.1))) := Sub.new np
      exact ⟨a, s, p, f, g, fv, lp, lg, sl, xs, ps, room, rfl, sp.ask A0, SqT.of upd_same, hfv, fun x H' gl s' => k x H' gl (sp.trans s'), fun H' d q S s' => ke H' d q S (sp.trans s')⟩
    have at_ : ∀ (i : Nat) (e : Addr × Told), ps[i]? = some e → atI (ps.map fun e => V.ref e.1) ((i : Nat) : Int) = some (.ref e.1) := fun i e h => by rw [atI_n, List.getElem?_map, h]; rfl
    have hq : SqL K H L (ps.map fun e => V.ref e.1) := SqL.of hL
    have one : ∀ (i : Nat) (e : Addr × Told) {j : Int} {σ : L2.St} {Q' : VK}, j = (i : Int) → ps[i]? = some e → Q' (.ref e.1) H → tC (.int j) σ H fun y H2 => rIxL K (.ref L) y H2 Q' := fun i e j σ Q' hj h q => by
      subst hj
      exact ⟨L, _, _, _, rfl, rfl, hq, at_ i e h, q⟩
    -- the length, test by test
    refine ⟨_, rfl, L, _, rfl, .inl hq, rfl, _, rfl, ?_⟩
    refine rd_ite (fun h0 => ?_) (fun h0 => ?_)
    · have h0 := len_yes (c := 0) h0
      obtain rfl := List.length_eq_zero_iff.mp h0
      exact ⟨_, rfl, _, rfl, _, rfl, _, [], ⟨_, _, _, rfl, rfl, rfl, by simp⟩, main⟩
    have h0 := len_no (c := 0) h0
    have tst : ∀ {c : Nat} {A B : Prop}, (ps.length = c → A) → (ps.length ≠ c → B) → if decide (V.int ((ps.map fun e => V.ref e.1).length : Nat) = V.int (c : Int)) = true then A else B := fun h1 h2 => rd_ite (fun z => h1 (len_yes z)) (fun z => h2 (len_no z))
    refine ⟨_, rfl, L, _, rfl, .inl hq, rfl, _, rfl, ?_⟩
    refine tst (c := 1) (fun hn => ?_) (fun h1 => rd_ite (fun z => absurd z (by decide)) (fun _ => ?_))
    · obtain ⟨e1, rfl⟩ := len1 hn
      refine ⟨_, rfl, _, rfl, ?_⟩
      rcases hfv with ⟨rfl, hgf⟩ | rfl
      · refine rd_ite (fun _ => ?_) (fun z => absurd z (by decide))
        have hfv : True := True.intro
        exact ⟨_, rfl, _, rfl, _, rfl, one 0 e1 rfl rfl ⟨_, _, ⟨_, _, _, _, rfl, rfl, rfl, rfl, by simp⟩, main⟩⟩
      · refine rd_ite (fun z => absurd z (by simp)) (fun _ => ?_)
        refine ⟨_, rfl, L, _, rfl, .inl hq, rfl, _, rfl, ?_⟩
        refine tst (c := 1) (fun _ => ?_) (fun z => absurd rfl z)
        exact ⟨_, rfl, _, rfl, _, rfl, one 0 e1 rfl rfl ⟨_, rfl, _, _, ⟨_, _, _, rfl, rfl, rfl, by simp⟩, main⟩⟩
    refine ⟨_, rfl, L, _, rfl, .inl hq, rfl, _, rfl, ?_⟩
    refine tst (c := 1) (fun h => absurd h h1) (fun _ => ?_)
    refine ⟨_, rfl, L, _, rfl, .inl hq, rfl, _, rfl, ?_⟩
    refine tst (c := 2) (fun hn => ?_) (fun h2 => rd_ite (fun z => absurd z (by decide)) (fun _ => ?_))
    · obtain ⟨e1, e2, rfl⟩ := len2 hn
      refine ⟨_, rfl, _, rfl, ?_⟩
      rcases hfv with ⟨rfl, hgf⟩ | rfl
      · refine rd_ite (fun _ => ?_) (fun z => absurd z (by decide))
        have hfv : True := True.intro
        exact ⟨_, rfl, _, rfl, _, rfl, one 0 e1 rfl rfl ⟨_, rfl, one 1 e2 rfl rfl ⟨_, _, ⟨_, _, _, _, rfl, rfl, rfl, rfl, by simp⟩, main⟩⟩⟩
      · refine rd_ite (fun z => absurd z (by simp)) (fun _ => ?_)
        refine ⟨_, rfl, L, _, rfl, .inl hq, rfl, _, rfl, ?_⟩
        refine tst (c := 2) (fun _ => ?_) (fun z => absurd rfl z)
        exact ⟨_, rfl, _, rfl, _, rfl, one 0 e1 rfl rfl ⟨_, rfl, one 1 e2 rfl rfl ⟨_, rfl, _, _, ⟨_, _, _, rfl, rfl, rfl, by simp⟩, main⟩⟩⟩
    refine ⟨_, rfl, L, _, rfl, .inl hq, rfl, _, rfl, ?_⟩
    refine tst (c := 2) (fun h => absurd h h2) (fun _ => ?_)
    refine ⟨_, rfl, L, _, rfl, .inl hq, rfl, _, rfl, ?_⟩
    refine tst (c := 3) (fun hn => ?_) (fun h3 => ?_)
    · obtain ⟨e1, e2, e3, rfl⟩ := len3 hn
      exact ⟨_, rfl, _, rfl, _, rfl, one 0 e1 rfl rfl ⟨_, rfl, one 1 e2 rfl rfl ⟨_, rfl, one 2 e3 rfl rfl ⟨_, rfl, _, _, ⟨_, _, _, rfl, rfl, rfl, by simp⟩, main⟩⟩⟩⟩
    refine ⟨_, rfl, L, _, rfl, .inl hq, rfl, _, rfl, ?_⟩
    refine tst (c := 4) (fun hn => ?_) (fun h4 => ?_)
    · obtain ⟨e1, e2, e3, e4, rfl⟩ := len4 hn
      exact ⟨_, rfl, _, rfl, _, rfl, one 0 e1 rfl rfl ⟨_, rfl, one 1 e2 rfl rfl ⟨_, rfl, one 2 e3 rfl rfl ⟨_, rfl, one 3 e4 rfl rfl ⟨_, rfl, _, _, ⟨_, _, _, rfl, rfl, rfl, by simp⟩, main⟩⟩⟩⟩⟩
    refine ⟨_, rfl, L, _, rfl, .inl hq, rfl, _, rfl, ?_⟩
    refine tst (c := 5) (fun hn => ?_) (fun h5 => ?_)
    · obtain ⟨e1, e2, e3, e4, e5, rfl⟩ := len5 hn
      exact ⟨_, rfl, _, rfl, _, rfl, one 0 e1 rfl rfl ⟨_, rfl, one 1 e2 rfl rfl ⟨_, rfl, one 2 e3 rfl rfl ⟨_, rfl, one 3 e4 rfl rfl ⟨_, rfl, one 4 e5 rfl rfl ⟨_, rfl, _, _, ⟨_, _, _, rfl, rfl, rfl, by simp⟩, main⟩⟩⟩⟩⟩⟩
    obtain ⟨e1, e2, e3, e4, e5, e6, rfl⟩ := len6 (ps := ps) (by omega)
    exact ⟨_, rfl, _, rfl, _, rfl, one 0 e1 rfl rfl ⟨_, rfl, one 1 e2 rfl rfl ⟨_, rfl, one 2 e3 rfl rfl ⟨_, rfl, one 3 e4 rfl rfl ⟨_, rfl, one 4 e5 rfl rfl ⟨_, rfl, one 5 e6 rfl rfl ⟨_, rfl, _, _, ⟨_, _, _, rfl, rfl, rfl, by simp⟩, main⟩⟩⟩⟩⟩⟩⟩
end
end K31
set_option Elab.async false
set_option linter.all false
set_option maxRecDepth 100000
set_option maxHeartbeats 4000000
namespace K31
open PySem PySem.Spec PyProof.Rows L2 He
open C8 (Cal Met Mak pe_c pe_mk pe_mt pe_mt0 pe_gc)
section
variable {P : Program} {w : World} {K : PySem.W.Frag} {mg : Str → Option Value} {base : Heap}
/-! ### _law_is_crowd -/
def sp_law_is_crowd (K : PySem.W.Frag) : Sp := fun vs H Q _ => ∃ (a s L f g : Addr) (x fv : V) (tv : Option (List V)) (lp lg : List (Str × Str)) (sl : List (Str × Int)) (xs : List Str) (ps : Pins) (room : Str → Nat), vs = [.ref a, .ref s, x, .ref L, fv] ∧ AskOk K H a s f g lp lg sl xs ps room ∧ H L = some (.lst (ps.map fun e => V.ref e.1)) ∧ ps.length ≤ 6 ∧ ((fv = .non ∧ g = f) ∨ fv = .ref g) ∧ ThAt K H x tv ∧
  ∀ H', Sub H H' → Q (.bl (crowdB (places lg) room (costOf (rowsOf lp lg (ps.map (·.2)) xs)) xs.length tv)) H'
abbrev n_law_is_crowd : List Str := ["_law_start", "_law_sizes_here", "_law_thing", "_law_some", "_law_web"]
theorem sc_law_is_crowd : FnScope n_law_is_crowd ["_law_start", "_law_sizes_here", "_law_thing", "_law_some", "_law_web"] (defScope s_law_is_crowd) := ⟨rfl, rfl, rfl, by decide +kernel, rfl, by decide +kernel, by decide +kernel⟩
theorem ok_law_is_crowd (T : Txt K mg) : Cal P w K mg base 8 "_law_is_crowd" (sp_law_is_crowd K) [] := by
  refine cal_of T.f__law_is_crowd T.g__law_is_crowd sc_law_is_crowd (fun vs H Q E h => ?_) (fun _ _ _ _ _ _ us hl => match us, hl with | [_, _, _, _, _], _ => rfl) (fun f0 cdv A outer s0 H vs Q E hr h => ?_)
  · obtain ⟨a, s, L, f, g, x, fv, tv, lp, lg, sl, xs, ps, room, rfl, _⟩ := h
    rfl
  · obtain ⟨a, s, L, f, g, x, fv, tv, lp, lg, sl, xs, ps, room, rfl, A0, hL, h6, hfv, hth, k⟩ := h
    refine ⟨_, (pss_cons (ps_if (PW.pt (pw_and (pt_cmpR op_eq (pe_callB c_lenL rfl T.n_len (by decide +kernel) (pa_cons (pv 3) pa_nil)) pe_int (nomark _)) (pw_and1 (pt_cmp (pc_isN (pv 4)))))) (pss_one (ps_ret (pe_kw0 (kw_crowdK T) hr (by decide) rfl T.g_is_crowd (kp_of T.f_is_crowd) pass0 (pk_cons (pv 2) (pk_cons (pv 1) (pk_cons (pv 0) pk_nil)))))) pss_nil)
  (pss_cons (ps_if (pt_cmpR op_eq (pe_callB c_lenL rfl T.n_len (by decide +kernel) (pa_cons (pv 3) pa_nil)) pe_int (nomark _)) (pss_one (ps_ret (pe_kw (kw_crowd1 T) hr (by decide) rfl T.g_is_crowd (kp_of T.f_is_crowd) pass0 (pa_cons (pv 0) (pa_cons (pv 1) (pa_cons (pv 2) pa_nil))) (pk_cons (pv 4) pk_nil)))) pss_nil)
  (pss_cons (ps_if (PW.pt (pw_and (pt_cmpR op_eq (pe_callB c_lenL rfl T.n_len (by decide +kernel) (pa_cons (pv 3) pa_nil)) pe_int (nomark _)) (pw_and1 (pt_cmp (pc_isN (pv 4)))))) (pss_one (ps_ret (pe_kwN (kw_crowd0 T) hr (by decide) rfl T.g_is_crowd (kp_of T.f_is_crowd) pass0 (pa_cons (pv 0) (pa_cons (pv 1) (pa_cons (pv 2) (pa_cons (pe_ix ix_list (pv 3) pe_int (fun _ _ => rfl)) pa_nil))))))) pss_nil)
  (pss_cons (ps_if (pt_cmpR op_eq (pe_callB c_lenL rfl T.n_len (by decide +kernel) (pa_cons (pv 3) pa_nil)) pe_int (nomark _)) (pss_one (ps_ret (pe_kw (kw_crowd1 T) hr (by decide) rfl T.g_is_crowd (kp_of T.f_is_crowd) pass0 (pa_cons (pv 0) (pa_cons (pv 1) (pa_cons (pv 2) (pa_cons (pe_ix ix_list (pv 3) pe_int (fun _ _ => rfl)) pa_nil)))) (pk_cons (pv 4) pk_nil)))) pss_nil)
  (pss_cons (ps_if (pt_cmpR op_eq (pe_callB c_lenL rfl T.n_len (by decide +kernel) (pa_cons (pv 3) pa_nil)) pe_int (nomark _)) (pss_one (ps_ret (pe_kw (kw_crowd1 T) hr (by decide) rfl T.g_is_crowd (kp_of T.f_is_crowd) pass0 (pa_cons (pv 0) (pa_cons (pv 1) (pa_cons (pv 2) (pa_cons (pe_ix ix_list (pv 3) pe_int (fun _ _ => rfl)) (pa_cons (pe_ix ix_list (pv 3) pe_int (fun _ _ => rfl)) pa_nil))))) (pk_cons (pv 4) pk_nil)))) pss_nil)
  (pss_cons (ps_if (pt_cmpR op_eq (pe_callB c_lenL rfl T.n_len (by decide +kernel) (pa_cons (pv 3) pa_nil)) pe_int (nomark _)) (pss_one (ps_ret (pe_kw (kw_crowd1 T) hr (by decide) rfl T.g_is_crowd (kp_of T.f_is_crowd) pass0 (pa_cons (pv 0) (pa_cons (pv 1) (pa_cons (pv 2) (pa_cons (pe_ix ix_list (pv 3) pe_int (fun _ _ => rfl)) (pa_cons (pe_ix ix_list (pv 3) pe_int (fun _ _ => rfl)) (pa_cons (pe_ix ix_list (pv 3) pe_int (fun _ _ => rfl)) pa_nil)))))) (pk_cons (pv 4) pk_nil)))) pss_nil)
  (pss_cons (ps_if (pt_cmpR op_eq (pe_callB c_lenL rfl T.n_len (by decide +kernel) (pa_cons (pv 3) pa_nil)) pe_int (nomark _)) (pss_one (ps_ret (pe_kw (kw_crowd1 T) hr (by decide) rfl T.g_is_crowd (kp_of T.f_is_crowd) pass0 (pa_cons (pv 0) (pa_cons (pv 1) (pa_cons (pv 2) (pa_cons (pe_ix ix_list (pv 3) pe_int (fun _ _ => rfl)) (pa_cons (pe_ix ix_list (pv 3) pe_int (fun _ _ => rfl)) (pa_cons (pe_ix ix_list (pv 3) pe_int (fun _ _ => rfl)) (pa_cons (pe_ix ix_list (pv 3) pe_int (fun _ _ => rfl)) pa_nil))))))) (pk_cons (pv 4) pk_nil)))) pss_nil)
  (pss_cons (ps_if (pt_cmpR op_eq (pe_callB c_lenL rfl T.n_len (by decide +kernel) (pa_cons (pv 3) pa_nil)) pe_int (nomark _)) (pss_one (ps_ret (pe_kw (kw_crowd1 T) hr (by decide) rfl T.g_is_crowd (kp_of T.f_is_crowd) pass0 (pa_cons (pv 0) (pa_cons (pv 1) (pa_cons (pv 2) (pa_cons (pe_ix ix_list (pv 3) pe_int (fun _ _ => rfl)) (pa_cons (pe_ix ix_list (pv 3) pe_int (fun _ _ => rfl)) (pa_cons (pe_ix ix_list (pv 3) pe_int (fun _ _ => rfl)) (pa_cons (pe_ix ix_list (pv 3) pe_int (fun _ _ => rfl)) (pa_cons (pe_ix ix_list (pv 3) pe_int (fun _ _ => rfl)) pa_nil)))))))) (pk_cons (pv 4) pk_nil)))) pss_nil)
  (pss_one (ps_ret (pe_kw (kw_crowd1 T) hr (by decide) rfl T.g_is_crowd (kp_of T.f_is_crowd) pass0 (pa_cons (pv 0) (pa_cons (pv 1) (pa_cons (pv 2) (pa_cons (pe_ix ix_list (pv 3) pe_int (fun _ _ => rfl)) (pa_cons (pe_ix ix_list (pv 3) pe_int (fun _ _ => rfl)) (pa_cons (pe_ix ix_list (pv 3) pe_int (fun _ _ => rfl)) (pa_cons (pe_ix ix_list (pv 3) pe_int (fun _ _ => rfl)) (pa_cons (pe_ix ix_list (pv 3) pe_int (fun _ _ => rfl)) (pa_cons (pe_ix ix_list (pv 3) pe_int (fun _ _ => rfl)) pa_nil))))))))) (pk_cons (pv 4) pk_nil)))))))))))), ?_⟩
    have main : ∀ p, H p = none → ∀ E', sp_is_crowd K [.ref a, .ref s, x, fv, .ref p] (upd H p (.tup (ps.map fun e => V.ref e.1))) Q E' := fun p np E' => by
      have sp : Sub H (upd H p (.tup (ps.map fun e => V.ref e.1))) := Sub.new np
      exact ⟨a, s, p, f, g, x, fv, tv, lp, lg, sl, xs, ps, room, rfl, sp.ask A0, SqT.of upd_same, hfv, sp.th hth, fun H' s' => k H' (sp.trans s')⟩
    have at_ : ∀ (i : Nat) (e : Addr × Told), ps[i]? = some e → atI (ps.map fun e => V.ref e.1) ((i : Nat) : Int) = some (.ref e.1) := fun i e h => by rw [atI_n, List.getElem?_map, h]; rfl
    have hq : SqL K H L (ps.map fun e => V.ref e.1) := SqL.of hL
    have one : ∀ (i : Nat) (e : Addr × Told) {j : Int} {σ : L2.St} {Q' : VK}, j = (i : Int) → ps[i]? = some e → Q' (.ref e.1) H → tC (.int j) σ H fun y H2 => rIxL K (.ref L) y H2 Q' := fun i e j σ Q' hj h q => by
      subst hj
      exact ⟨L, _, _, _, rfl, rfl, hq, at_ i e h, q⟩
    have tst : ∀ {c : Nat} {A B : Prop}, (ps.length = c → A) → (ps.length ≠ c → B) → if decide (V.int ((ps.map fun e => V.ref e.1).length : Nat) = V.int (c : Int)) = true then A else B := fun h1 h2 => rd_ite (fun z => h1 (len_yes z)) (fun z => h2 (len_no z))
    refine ⟨_, rfl, L, _, rfl, .inl hq, rfl, _, rfl, ?_⟩
    refine tst (c := 0) (fun hn => ?_) (fun h0 => rd_ite (fun z => absurd z (by decide)) (fun _ => ?_))
    · obtain rfl := List.length_eq_zero_iff.mp hn
      refine ⟨_, rfl, _, rfl, ?_⟩
      rcases hfv with ⟨rfl, hgf⟩ | rfl
      · refine rd_ite (fun _ => ?_) (fun z => absurd z (by decide))
        exact ⟨_, rfl, _, rfl, _, rfl, _, _, ⟨_, _, _, rfl, rfl, rfl, rfl⟩, fun p np => main p np _⟩
      · refine rd_ite (fun z => absurd z (by simp)) (fun _ => ?_)
        refine ⟨_, rfl, L, _, rfl, .inl hq, rfl, _, rfl, ?_⟩
        refine tst (c := 0) (fun _ => ?_) (fun z => absurd rfl z)
        exact ⟨_, rfl, _, rfl, _, rfl, _, rfl, _, _, ⟨_, _, _, _, rfl, rfl, rfl, by simp⟩, fun p np => main p np _⟩
    refine ⟨_, rfl, L, _, rfl, .inl hq, rfl, _, rfl, ?_⟩
    refine tst (c := 0) (fun h => absurd h h0) (fun _ => ?_)
    refine ⟨_, rfl, L, _, rfl, .inl hq, rfl, _, rfl, ?_⟩
    refine tst (c := 1) (fun hn => ?_) (fun h1 => rd_ite (fun z => absurd z (by decide)) (fun _ => ?_))
    · obtain ⟨e1, rfl⟩ := len1 hn
      refine ⟨_, rfl, _, rfl, ?_⟩
      rcases hfv with ⟨rfl, hgf⟩ | rfl
      · refine rd_ite (fun _ => ?_) (fun z => absurd z (by decide))
        exact ⟨_, rfl, _, rfl, _, rfl, _, rfl, one 0 e1 rfl rfl ⟨_, _, ⟨_, _, _, _, _, rfl, rfl, rfl, rfl, by simp⟩, fun p np => main p np _⟩⟩
      · refine rd_ite (fun z => absurd z (by simp)) (fun _ => ?_)
        refine ⟨_, rfl, L, _, rfl, .inl hq, rfl, _, rfl, ?_⟩
        refine tst (c := 1) (fun _ => ?_) (fun z => absurd rfl z)
        exact ⟨_, rfl, _, rfl, _, rfl, _, rfl, one 0 e1 rfl rfl ⟨_, rfl, _, _, ⟨_, _, _, _, rfl, rfl, rfl, by simp⟩, fun p np => main p np _⟩⟩
    refine ⟨_, rfl, L, _, rfl, .inl hq, rfl, _, rfl, ?_⟩
    refine tst (c := 1) (fun h => absurd h h1) (fun _ => ?_)
    refine ⟨_, rfl, L, _, rfl, .inl hq, rfl, _, rfl, ?_⟩
    refine tst (c := 2) (fun hn => ?_) (fun h2 => ?_)
    · obtain ⟨e1, e2, rfl⟩ := len2 hn
      exact ⟨_, rfl, _, rfl, _, rfl, _, rfl, one 0 e1 rfl rfl ⟨_, rfl, one 1 e2 rfl rfl ⟨_, rfl, _, _, ⟨_, _, _, _, rfl, rfl, rfl, by simp⟩, fun p np => main p np _⟩⟩⟩
    refine ⟨_, rfl, L, _, rfl, .inl hq, rfl, _, rfl, ?_⟩
    refine tst (c := 3) (fun hn => ?_) (fun h3 => ?_)
    · obtain ⟨e1, e2, e3, rfl⟩ := len3 hn
      exact ⟨_, rfl, _, rfl, _, rfl, _, rfl, one 0 e1 rfl rfl ⟨_, rfl, one 1 e2 rfl rfl ⟨_, rfl, one 2 e3 rfl rfl ⟨_, rfl, _, _, ⟨_, _, _, _, rfl, rfl, rfl, by simp⟩, fun p np => main p np _⟩⟩⟩⟩
    refine ⟨_, rfl, L, _, rfl, .inl hq, rfl, _, rfl, ?_⟩
    refine tst (c := 4) (fun hn => ?_) (fun h4 => ?_)
    · obtain ⟨e1, e2, e3, e4, rfl⟩ := len4 hn
      exact ⟨_, rfl, _, rfl, _, rfl, _, rfl, one 0 e1 rfl rfl ⟨_, rfl, one 1 e2 rfl rfl ⟨_, rfl, one 2 e3 rfl rfl ⟨_, rfl, one 3 e4 rfl rfl ⟨_, rfl, _, _, ⟨_, _, _, _, rfl, rfl, rfl, by simp⟩, fun p np => main p np _⟩⟩⟩⟩⟩
    refine ⟨_, rfl, L, _, rfl, .inl hq, rfl, _, rfl, ?_⟩
    refine tst (c := 5) (fun hn => ?_) (fun h5 => ?_)
    · obtain ⟨e1, e2, e3, e4, e5, rfl⟩ := len5 hn
      exact ⟨_, rfl, _, rfl, _, rfl, _, rfl, one 0 e1 rfl rfl ⟨_, rfl, one 1 e2 rfl rfl ⟨_, rfl, one 2 e3 rfl rfl ⟨_, rfl, one 3 e4 rfl rfl ⟨_, rfl, one 4 e5 rfl rfl ⟨_, rfl, _, _, ⟨_, _, _, _, rfl, rfl, rfl, by simp⟩, fun p np => main p np _⟩⟩⟩⟩⟩⟩
    obtain ⟨e1, e2, e3, e4, e5, e6, rfl⟩ := len6 (ps := ps) (by omega)
    exact ⟨_, rfl, _, rfl, _, rfl, _, rfl, one 0 e1 rfl rfl ⟨_, rfl, one 1 e2 rfl rfl ⟨_, rfl, one 2 e3 rfl rfl ⟨_, rfl, one 3 e4 rfl rfl ⟨_, rfl, one 4 e5 rfl rfl ⟨_, rfl, one 5 e6 rfl rfl ⟨_, rfl, _, _, ⟨_, _, _, _, rfl, rfl, rfl, by simp⟩, fun p np => main p np _⟩⟩⟩⟩⟩⟩⟩
end
end K31
set_option Elab.async false
set_option linter.all false
set_option maxRecDepth 100000
set_option maxHeartbeats 4000000
namespace K31
open PySem PySem.Spec PyProof.Rows L2 He
open C8 (Cal Met Mak pe_c pe_mk pe_mt pe_mt0 pe_gc)
section
variable {P : Program} {w : World} {K : PySem.W.Frag} {mg : Str → Option Value} {base : Heap}
/-! ### _law_found -/
def sp_law_found (K : PySem.W.Frag) : Sp := fun vs H Q _ => ∃ (a s L f g : Addr) (fv : V) (lp lg : List (Str × Str)) (sl : List (Str × Int)) (xs : List Str) (ps : Pins) (room : Str → Nat), vs = [.ref a, .ref s, .ref L, fv] ∧ AskOk K H a s f g lp lg sl xs ps room ∧ H L = some (.lst (ps.map fun e => V.ref e.1)) ∧ ps.length ≤ 6 ∧ ((fv = .non ∧ g = f) ∨ fv = .ref g) ∧
  (∀ (x : Addr) (H' : Hp) (gl : List Str), Sub H H' → (∃ dx fs, H' x = some (.ins (ga K "Transfer") dx fs)) → gl.length = xs.length → Good (costOf (rowsOf lp lg (ps.map (·.2)) xs)) room gl → Q (.ref x) H') ∧
  (∀ (H' : Hp) (q : Addr) (S : List Nat), Sub H H' → H' q = some (.tup (S.map fun i => .int (i : Nat))) → Asc S → S ≠ [] → (∀ u ∈ S, u < xs.length) → tooMany (places lg) room (costOf (rowsOf lp lg (ps.map (·.2)) xs)) S = true → Q (.ref q) H')
abbrev n_law_found : List Str := ["_law_start", "_law_sizes_here", "_law_some", "_law_web", "_law_found_here", "e"]
theorem sc_law_found : FnScope n_law_found ["_law_start", "_law_sizes_here", "_law_some", "_law_web"] (defScope s_law_found) := ⟨rfl, rfl, rfl, by decide +kernel, rfl, by decide +kernel, by decide +kernel⟩
theorem ok_law_found (T : Txt K mg) : Cal P w K mg base 9 "_law_found" (sp_law_found K) [] := by
  refine cal_of T.f__law_found T.g__law_found sc_law_found (fun vs H Q E h => ?_) (fun _ _ _ _ _ _ us hl => match us, hl with | [_, _, _, _], _ => rfl) (fun f0 cdv A outer s0 H vs Q E hr h => ?_)
  · obtain ⟨a, s, L, f, g, fv, lp, lg, sl, xs, ps, room, rfl, _⟩ := h
    rfl
  · obtain ⟨a, s, L, f, g, fv, lp, lg, sl, xs, ps, room, rfl, A0, hL, h6, hfv, k, ke⟩ := h
    obtain ⟨fd, psn, F, hm, kp, b⟩ := ok_law_transfer (P := P) (w := w) (base := base) T
    refine ⟨_, pss_cons (ps_set (i := 4) sc_law_found.nd rfl (.inl rfl) pe_non) (pss_cons (ps_try_as (i := 5) (tb := fun W => tAsg (tCallS (sp_law_transfer K) (WE W) (tCons (tVar 0) (tCons (tVar 1) (tCons (tVar 2) (tCons (tVar 3) tNil))))) (gName 4)) (ts := fun a cls d => tAsg (tXf a cls d (ga K "Crowded") "users" (tVar 5)) (gName 4)) (Wout := fun _ _ _ _ => False) rfl rfl sc_law_found.nd rfl rfl ⟨rfl, by decide, .inl T.g_Crowded⟩ takes0
      (fun W pn xe tk _ => pss_one (ps_set (i := 4) sc_law_found.nd rfl (.inl rfl) (by exact (pe_callS F hr rfl hm kp b (fun σ => passAt tk σ) (by exact (pa_cons (pv 0) (pa_cons (pv 1) (pa_cons (pv 2) (pa_cons (pv 3) pa_nil)))))))))
      (fun a oe cls d pn hz hf => pss_one (ps_set (i := 4) sc_law_found.nd rfl (.inl rfl) (by exact (pe_xf T.xf_Crowded T.xn_Crowded hz hf (pv 5)))))) (pss_one (ps_ret (pv 4)))), ?_⟩
    refine ⟨_, rfl, _, rfl, _, rfl, _, rfl, a, s, L, f, g, fv, lp, lg, sl, xs, ps, room, rfl, A0, hL, h6, hfv, fun x H' gl s' h1 h2 h3 => ⟨_, rfl, k x H' gl s' h1 h2 h3⟩, fun H' d q S s' h1 h2 h3 h4 h5 h7 => ?_⟩
    refine ⟨true, T.xm_Crowded, fun _ e ne => ?_, fun z => nomatch z⟩
    exact ⟨_, rfl, rfl, rfl, d, _, .ref q, rfl, h1, rfl, _, rfl, ke H' q S s' h2 h3 h4 h5 h7⟩
end
end K31
set_option Elab.async false
set_option linter.all false
set_option maxRecDepth 100000
set_option maxHeartbeats 4000000
/-! repr of a bool. -/
namespace K31
open PySem PySem.Spec PyProof.Rows L2 He
section
variable {X : Cx}
def bT (b : Bool) : Str := if b then "True" else "False"
theorem bT_ne {a b : Bool} : decide (V.str (bT a) = V.str (bT b)) = decide (a = b) := by cases a <;> cases b <;> decide
def kReprB : List V → Hp → VK → Prop := fun xs H Q => ∃ b, xs = [.bl b] ∧ Q (.str (bT b)) H
theorem c_reprB : CallR X (.builtin "repr") kReprB := by
  intro pins s σ H xs us Q I r h
  obtain ⟨b, rfl, q⟩ := h
  obtain ⟨u, rfl, ru⟩ := vals1 r
  obtain rfl : u = Value.bool b := ru
  refine PySem.P.repr_of_bool ⟨.str (bT b), H, I.tok _, ⟨s.toks, ?_⟩, q⟩
  cases b <;> rfl
/-! dict == dict, text to text -/
def sameD (la lb : List (Str × Str)) : Bool := la.all fun p => match aGet lb p.1 with | some y => decide (p.2 = y) | none => false
theorem hits_strs {A : Around} {s : Shared} {lb : List (Str × Str)} {vb : List (Key × Value)} (rb : KV (kS V.str lb) vb) : ∀ {la : List (Str × Str)} {va : List (Key × Value)}, KV (kS V.str la) va → PySem.W.KeqHits A s vb va (sameD la lb)
  | [], va, h => by
    cases h
    exact .nil
  | p :: la, va, h => by
    cases h with
    | @cons _ q _ qs h t =>
      obtain ⟨k, v⟩ := q
      obtain ⟨h1, h2⟩ := h
      obtain rfl : (Sum.inr p.1 : Key) = k := h1
      have rr : RelO (valV (kS V.str lb) (Sum.inr p.1)) (valueAt vb (Sum.inr p.1)) := rb.val _
      rw [valV_kS] at rr
      show PySem.W.KeqHits A s vb _ ((match aGet lb p.1 with | some y => decide (p.2 = y) | none => false) && sameD la lb)
      cases e : aGet lb p.1 with
      | none =>
        rw [e] at rr
        exact .miss (RelO.none_of rr)
      | some y =>
        rw [e] at rr
        obtain ⟨u, hu, ry⟩ := rr.some_of
        obtain ⟨t1, rfl⟩ := (show ∃ t, v = Value.str p.2 t from h2)
        obtain ⟨t2, rfl⟩ := (show ∃ t, u = Value.str y t from ry)
        refine .hit hu ?_ (hits_strs rb t)
        have q := SeqAt.EqAt.str_str (A := A) (s := s) p.2 t1 y t2
        have eb : (p.2 == y) = decide (p.2 = y) := by
          by_cases h : p.2 = y
          · rw [decide_eq_true h, h]; simp
          · rw [decide_eq_false h]; simpa using h
        rw [eb] at q
        exact q
def rEqDS : R2 := fun x y H Q => ∃ a b la lb, x = .ref a ∧ y = .ref b ∧ RD V.str H a la ∧ RD V.str H b lb ∧ Q (.bl (la.length == lb.length && sameD la lb)) H
theorem op_eqDS (hu : X.A.units < cLine) : OpR X (compareOp .Eq) rEqDS := by
  intro pins s σ H x y v u Q I rx ry h
  obtain ⟨a, b, la, lb, rfl, rfl, ea, eb, q⟩ := h
  obtain rfl : v = Value.ref a := rx
  obtain rfl : u = Value.ref b := ry
  obtain ⟨_, ya, va, ra, da⟩ := dk_rd I.hok ea
  obtain ⟨_, yb, vb, rb, db⟩ := dk_rd I.hok eb
  have hl1 : la.length = va.length := by rw [← ra.length]; unfold kS; rw [List.length_map]
  have hl2 : lb.length = vb.length := by rw [← rb.length]; unfold kS; rw [List.length_map]
  refine PySem.W.keq_eq (knd := mixKind X.prog X.w) (r := sameD la lb) ya yb da db hu (fun _ => hits_strs rb ra) ?_
  rw [← hl1, ← hl2]
  exact ⟨.bl _, H, I, rfl, q⟩
end
end K31
set_option Elab.async false
set_option linter.all false
set_option maxRecDepth 100000
set_option maxHeartbeats 4000000
namespace K31
open PySem PySem.Spec PyProof.Rows L2 He
open C8 (Cal Met Mak pe_c pe_mk pe_mt pe_mt0 pe_gc)
/-! ### equal dicts, equal forests -/
theorem same_nf {la lb : List (Str × Str)} (ta : Tree la) (tb : Tree lb) (hl : la.length = lb.length) (h : sameD la lb = true) : nf la = nf lb := by
  unfold sameD at h
  rw [List.all_eq_true] at h
  have hk : ∀ k v, aGet la k = some v → aGet lb k = some v := fun k v e => by
    have := h _ (aGet_mem e)
    dsimp only at this
    cases g : aGet lb k with
    | none => rw [g] at this; cases this
    | some y =>
      rw [g] at this
      have : v = y := by simpa using this
      rw [this]
  have hsub : ∀ k ∈ la.map (·.1), k ∈ lb.map (·.1) := fun k hk' => by
    obtain ⟨v, e⟩ := aGet_some hk'
    exact List.mem_map.mpr ⟨_, aGet_mem (hk _ _ e), rfl⟩
  have hback : ∀ k ∈ lb.map (·.1), k ∈ la.map (·.1) := fun k hkb => by
    refine Classical.byContradiction fun hn => ?_
    have h1 := ndsub_len (l := k :: la.map (·.1)) (m := lb.map (·.1)) (List.nodup_cons.mpr ⟨hn, ta.nd⟩) fun x hx => by
      rcases List.mem_cons.mp hx with rfl | hx
      · exact hkb
      · exact hsub x hx
    rw [List.length_cons, List.length_map, List.length_map] at h1
    omega
  have pm : (la.map (·.1)).Perm (lb.map (·.1)) := (List.perm_ext_iff_of_nodup ta.nd tb.nd).mpr fun k => ⟨hsub k, hback k⟩
  have es : srt (la.map (·.1)) = srt (lb.map (·.1)) := srt_is ((srt_perm _).trans pm) (srt_sorted _)
  unfold nf srtd
  rw [← es]
  refine List.map_congr_left fun n hn => ?_
  have hn2 := (srt_perm _).mem_iff.mp hn
  obtain ⟨v, e⟩ := aGet_some hn2
  rw [e, hk _ _ e]
section
variable {P : Program} {w : World} {K : PySem.W.Frag} {mg : Str → Option Value} {base : Heap}
/-- the forest that is asked for: none if the dicts are equal -/
theorem rd_place {σ : L2.St} {H : Hp} {Q : VK} {d l sm p g f g2 : Addr} {T : Nat} {lp lg : List (Str × Str)} (h1 : σ[1]? = some (some (.ref d))) (h3 : σ[3]? = some (some (.ref p))) (h5 : σ[5]? = some (some (.ref g))) (h11 : σ[11]? = some (some (.ref g2))) (hD : DrawAt H d l sm T) (hT : T ≤ 900000000) (fp : RD V.str H p lp) (fg : RD V.str H g lg) (tp : Tree lp) (tg : Tree lg)
    (ff : ForestAt K (msk d l H) f (nf lp)) (fg2 : ForestAt K (msk d l H) g2 (nf lg)) (q : ∀ (fv : V) (gg : Addr) (H' : Hp), SubE d l H H' → DrawAt H' d l sm (T + 1) → ((fv = .non ∧ gg = f) ∨ fv = .ref gg) → ForestAt K (msk d l H') gg (nf lg) → Q fv H') :
    tIf (tAnd (tTest (tOp rEqDS (tVar 5) (tVar 3))) (tTest (tOp rEq (tCall sp_law_take [] C8.E0 (tCons (tVar 1) (tCons (tC (.int 2)) tNil))) (tC (.int 0))))) (tC .non) (tVar 11) σ H Q := by
  refine ⟨_, h5, _, h3, g, p, lg, lp, rfl, rfl, fg, fp, _, rfl, ?_⟩
  refine rd_ite (fun he => ?_) (fun _ => ?_)
  · refine ⟨_, h1, d, l, sm, T, 2, rfl, hD, by omega, by decide, by decide, fun r H2 hr s2 hD2 => ?_⟩
    refine ⟨rfl, _, rfl, ?_⟩
    refine rd_ite (fun _ => ?_) (fun _ => ?_)
    · rw [Bool.and_eq_true] at he
      have := same_nf tg tp (by simpa using he.1) he.2
      exact q .non f H2 s2 hD2 (.inl ⟨rfl, rfl⟩) (by rw [this]; exact s2.m.forest ff)
    · exact ⟨_, h11, q (.ref g2) g2 H2 s2 hD2 (.inr rfl) (s2.m.forest fg2)⟩
  · refine rd_ite (fun z => absurd z (by decide)) (fun _ => ?_)
    exact ⟨_, h11, q (.ref g2) g2 H SubE.refl (hD.le (by omega)) (.inr rfl) fg2⟩
end
end K31
set_option Elab.async false
set_option linter.all false
set_option maxRecDepth 100000
set_option maxHeartbeats 4000000
namespace K31
open PySem PySem.Spec PyProof.Rows L2 He
open C8 (Cal Met Mak pe_c pe_mk pe_mt pe_mt0 pe_gc)
section
variable {P : Program} {w : World} {K : PySem.W.Frag} {mg : Str → Option Value} {base : Heap}
/-- what was found: a plan and no crowd (c S: S is a crowd), or a crowd -/
def FoundAt (K : PySem.W.Frag) (H : Hp) (v : V) (n : Nat) (c : List Nat → Bool) (b : Bool) : Prop :=
  (∃ t, TyX K H v t ∧ PySem.W.kitOne K t (.type "tuple") = some b) ∧ (b = false → ∀ S ∈ everyOf n, c S = false) ∧ (b = true → ∃ q S, v = .ref q ∧ H q = some (.tup (intsV S)) ∧ S ∈ everyOf n ∧ c S = true)
theorem Sub.found {H H' : Hp} {v : V} {n : Nat} {c : List Nat → Bool} {b : Bool} (s : Sub H H') (h : FoundAt K H v n c b) : FoundAt K H' v n c b := by
  obtain ⟨⟨t, h1, h2⟩, h3, h4⟩ := h
  refine ⟨⟨t, s.tyx h1, h2⟩, h3, fun e => ?_⟩
  obtain ⟨q, S, a1, a2, a3⟩ := h4 e
  exact ⟨q, S, a1, s _ _ a2, a3⟩
theorem rd_found (T : Txt K mg) {H : Hp} {Q : VK} {E : XK} {a s L f g : Addr} {fv : V} {lp lg : List (Str × Str)} {sl : List (Str × Int)} {xs : List Str} {ps : Pins} {room : Str → Nat} (A0 : AskOk K H a s f g lp lg sl xs ps room) (hL : H L = some (.lst (ps.map fun e => V.ref e.1))) (h6 : ps.length ≤ 6) (hfv : (fv = .non ∧ g = f) ∨ fv = .ref g)
    (k : ∀ (v : V) (H' : Hp) (b : Bool), Sub H H' → FoundAt K H' v xs.length (fun S => tooMany (places lg) room (costOf (rowsOf lp lg (ps.map (·.2)) xs)) S) b → Q v H') : sp_law_found K [.ref a, .ref s, .ref L, fv] H Q E := by
  refine ⟨a, s, L, f, g, fv, lp, lg, sl, xs, ps, room, rfl, A0, hL, h6, hfv, fun x H' gl s' ⟨dx, fs, e⟩ hl G => ?_, fun H' q S s' e h1 h2 h3 h4 => ?_⟩
  · refine k (.ref x) H' false s' ⟨⟨_, tyIns e T.i_Transfer, T.isT⟩, fun _ S hS => ?_, (fun z => nomatch z)⟩
    obtain ⟨_, ha, hlt⟩ := everyOf_iff.mp hS
    have R : RowsOk (rowsOf lp lg (ps.map (·.2)) xs) (places lg) := rowsOk_of A0.tp A0.tg A0.xp A0.x60
    refine no_crowd (gl := gl) (fun m p a e => ?_) R.und G.may G.fits (asc_nodup ha) (fun u hu => by rw [hl]; exact hlt u hu)
    obtain ⟨r, e1, e2⟩ := costOf_some e
    exact R.sub r (List.mem_of_getElem? e1) _ (aGet_mem e2)
  · exact k (.ref q) H' true s' ⟨⟨_, .base (.tup e), kit_ty (by decide +kernel)⟩, (fun z => nomatch z), fun _ => ⟨q, S, rfl, e, everyOf_iff.mpr ⟨h2, h1, h3⟩, h4⟩⟩
end
end K31
set_option Elab.async false
set_option linter.all false
set_option maxRecDepth 100000
set_option maxHeartbeats 4000000
namespace K31
open PySem PySem.Spec PyProof.Rows L2 He
open C8 (Cal Met Mak pe_c pe_mk pe_mt pe_mt0 pe_gc)
def natD (S : List Nat) : List PyData := (S.map fun i : Nat => (i : Int)).map PyData.int
section
variable {P : Program} {w : World} {K : PySem.W.Frag} {mg : Str → Option Value} {base : Heap}
theorem intsV_eq (S : List Nat) : intsV S = (S.map fun i : Nat => (i : Int)).map V.int := by unfold intsV; rw [List.map_map]; rfl
theorem dp_natT {H : Hp} {a : Addr} {S : List Nat} (e : H a = some (.tup (intsV S))) : Dp K H (.ref a) (.tuple (natD S)) := by
  refine .tup (SqT.of e) ?_
  rw [intsV_eq]
  exact dp_ints _
theorem dp_sets {H : Hp} : ∀ {es : List (Addr × List Nat)}, (∀ e ∈ es, H e.1 = some (.tup (intsV e.2))) → DpAll K H (es.map fun e => V.ref e.1) (es.map fun e => PyData.tuple (natD e.2))
  | [], _ => .nil
  | e :: es, h => .cons (dp_natT (h e (List.mem_cons_self ..))) (dp_sets fun x hx => h x (List.mem_cons_of_mem _ hx))
theorem lay_sets : ∀ es : List (Addr × List Nat), PyData.canLayAll0 (es.map fun e => PyData.tuple (natD e.2)) = true
  | [] => rfl
  | e :: es => by
    show (PyData.canLayAll0 (natD e.2) && PyData.canLayAll0 (es.map fun e => PyData.tuple (natD e.2))) = true
    rw [lay_sets es]
    unfold natD
    rw [lay_ints]; rfl
theorem depth_sets : ∀ es : List (Addr × List Nat), PyData.depthAll (es.map fun e => PyData.tuple (natD e.2)) ≤ 1
  | [] => by simp [PyData.depthAll]
  | e :: es => by
    have := depth_sets es
    have h2 : PyData.depthAll (natD e.2) = 0 := depth_ints _
    simp [PyData.depthAll, PyData.depth, h2]
    omega
theorem shaped_natT (S : List Nat) : SeqAt.shaped (.tuple (natD S)) = true := by
  show (PyData.canLayAll0 (natD S) && decide (PyData.depth (.tuple (natD S)) ≤ 64)) = true
  have h2 : PyData.depthAll (natD S) = 0 := depth_ints _
  have h3 : PyData.canLayAll0 (natD S) = true := lay_ints _
  rw [h3]
  simp [PyData.depth, h2]
theorem any_sets {es : List (Addr × List Nat)} {S : List Nat} (h : S ∈ es.map (·.2)) : ((es.map fun e => PyData.tuple (natD e.2)).any fun z => PyData.eqv z (.tuple (natD S))) = true := by
  obtain ⟨e, he, rfl⟩ := List.mem_map.mp h
  rw [List.any_map, List.any_eq_true]
  refine ⟨e, he, ?_⟩
  show PyData.eqvAll (natD e.2) (natD e.2) = true
  unfold natD
  rw [eqv_ints]
  simp
/-- the first test of the law: it never fails -/
theorem rd_test {σ : L2.St} {H : Hp} {Q : Bool → Hp → Prop} {v : V} {Lc : Addr} {n : Nat} {c : List Nat → Bool} {b : Bool} (h14 : σ[14]? = some (some v)) (h16 : σ[16]? = some (some (.ref Lc))) (hf : FoundAt K H v n c b) (hc : SetsAt H Lc ((everyOf n).filter c)) (q : ∀ H', Sub H H' → Q false H') :
    tOr (tTest (tOp rNe (tCB (rIsi K) (tCons (tVar 14) (tCons (tC (.ty "tuple")) tNil))) (tOp (rNeD K) (tVar 16) (tLst tNil)))) (tAnd (tB (tCB (rIsi K) (tCons (tVar 14) (tCons (tC (.ty "tuple")) tNil)))) (tTest (tOp (rNotInD K) (tVar 14) (tVar 16)))) σ H Q := by
  obtain ⟨es, e1, e2, e3⟩ := hc.ex
  obtain ⟨⟨t, ty, kit⟩, hno, hyes⟩ := id hf
  refine ⟨_, h14, v, .ty "tuple", t, .type "tuple", b, rfl, .ty _, ty, kit, ?_⟩
  refine ⟨_, h16, by decide, fun N nN => ?_⟩
  have sN : Sub H (upd H N (.lst [])) := Sub.new nN
  have nest : ∀ x ∈ es.map (fun e => V.ref e.1), NestOk K (upd H N (.lst [])) x := fun x hx => by
    obtain ⟨e, he, rfl⟩ := List.mem_map.mp hx
    refine ⟨e.1, _, rfl, SqT.of (sN _ _ (e3 e he)), fun y hy => ?_⟩
    obtain ⟨i, _, rfl⟩ := List.mem_map.mp hy
    exact .inr ⟨_, rfl⟩
  refine ne_nest nest (SqL.of (sN _ _ e1)) (SqL.of upd_same) ⟨rfl, _, rfl, ?_⟩
  have hb : b = !(es.map fun e => V.ref e.1).isEmpty := by
    cases b with
    | true =>
      obtain ⟨qq, S, _, _, h1, h2⟩ := hyes rfl
      have hm : S ∈ (everyOf n).filter c := List.mem_filter.mpr ⟨h1, h2⟩
      rw [← e2] at hm
      obtain ⟨e, he, _⟩ := List.mem_map.mp hm
      cases es with
      | nil => cases he
      | cons _ _ => rfl
    | false =>
      have : (everyOf n).filter c = [] := List.filter_eq_nil_iff.mpr fun S hS => by rw [hno rfl S hS]; decide
      rw [this] at e2
      cases es with
      | nil => rfl
      | cons _ _ => cases e2
  rw [← hb]
  refine rd_ite (fun z => ?_) (fun _ => ?_)
  · simp at z
  · refine ⟨_, h14, v, .ty "tuple", t, .type "tuple", b, rfl, .ty _, sN.tyx ty, kit, b, rfl, ?_⟩
    refine rd_ite (fun hb1 => ?_) (fun _ => q _ sN)
    obtain ⟨qq, S, rfl, eq, h1, h2⟩ := hyes hb1
    refine ⟨_, h14, _, h16, .tuple (natD S), es.map fun e => PyData.tuple (natD e.2), dp_natT (sN _ _ eq), .lst (SqL.of (sN _ _ e1)) (dp_sets fun e he => sN _ _ (e3 e he)), shaped_natT S, shaped_nest (lay_sets es) (depth_sets es), _, rfl, ?_⟩
    rw [any_sets (by rw [e2]; exact List.mem_filter.mpr ⟨h1, h2⟩)]
    exact q _ sN
end
end K31
set_option Elab.async false
set_option linter.all false
set_option maxRecDepth 100000
set_option maxHeartbeats 4000000
namespace K31
open PySem PySem.Spec PyProof.Rows L2 He
open C8 (Cal Met Mak pe_c pe_mk pe_mt pe_mt0 pe_gc)
theorem every_ne {n : Nat} (h : 1 ≤ n) : everyOf n ≠ [] := fun e => by
  have : [0] ∈ everyOf n := everyOf_iff.mpr ⟨by simp, by simp [Asc], fun u hu => by rw [List.mem_singleton.mp hu]; omega⟩
  rw [e] at this
  cases this
theorem every_len {n : Nat} (h : n ≤ 8) : (everyOf n).length ≤ 256 := by
  unfold everyOf
  rw [List.length_drop, sets_len]
  have : 2 ^ n ≤ 2 ^ 8 := Nat.pow_le_pow_right (by decide) h
  omega
section
variable {P : Program} {w : World} {K : PySem.W.Frag} {mg : Str → Option Value} {base : Heap}
theorem rd_row {σ : L2.St} {H : Hp} {Q : VK} {d l sm Le Lc : Addr} {T n : Nat} {c : List Nat → Bool} (h1 : σ[1]? = some (some (.ref d))) (h15 : σ[15]? = some (some (.ref Le))) (h16 : σ[16]? = some (some (.ref Lc))) (hD : DrawAt H d l sm T) (hT : T ≤ 900000000) (hn : 1 ≤ n)
    (he : SetsAt (msk d l H) Le (everyOf n)) (hc : SetsAt (msk d l H) Lc ((everyOf n).filter c)) (q : ∀ (L' : Addr) (H' : Hp) (ss : List (List Nat)), SubE d l H H' → DrawAt H' d l sm (T + 1) → SetsAt (msk d l H') L' ss → ss ≠ [] → (∀ S ∈ ss, S ∈ everyOf n) → ss.length ≤ (everyOf n).length → Q (.ref L') H') :
    tIf (tAnd (tTest (tOp (rNeD K) (tVar 16) (tLst tNil))) (tTest (tOp rEq (tCall sp_law_take [] C8.E0 (tCons (tVar 1) (tCons (tC (.int 2)) tNil))) (tC (.int 0))))) (tVar 16) (tVar 15) σ H Q := by
  obtain ⟨es, e1, e2, e3⟩ := hc.ex
  refine ⟨_, h16, by decide, fun N nN => ?_⟩
  have sN : Sub H (upd H N (.lst [])) := Sub.new nN
  have sH := msk_sub (d := d) (l := l) (H := H)
  have nest : ∀ x ∈ es.map (fun e => V.ref e.1), NestOk K (upd H N (.lst [])) x := fun x hx => by
    obtain ⟨e, he, rfl⟩ := List.mem_map.mp hx
    refine ⟨e.1, _, rfl, SqT.of (sN _ _ (sH _ _ (e3 e he))), fun y hy => ?_⟩
    obtain ⟨i, _, rfl⟩ := List.mem_map.mp hy
    exact .inr ⟨_, rfl⟩
  refine ne_nest nest (SqL.of (sN _ _ (sH _ _ e1))) (SqL.of upd_same) ⟨_, rfl, ?_⟩
  have hD1 := hD.sub sN
  have s1 := sN.e (d := d) (l := l)
  refine rd_ite (fun hne => ?_) (fun _ => ?_)
  · refine ⟨_, h1, d, l, sm, T, 2, rfl, hD1, by omega, by decide, by decide, fun r H2 hr s2 hD2 => ?_⟩
    have s12 := s1.trans s2
    refine ⟨rfl, _, rfl, ?_⟩
    refine rd_ite (fun _ => ?_) (fun _ => ?_)
    · refine ⟨_, h16, q Lc H2 _ s12 hD2 (s12.m.sets hc) (fun z => ?_) (fun S hS => (List.mem_filter.mp hS).1) (List.length_filter_le _ _)⟩
      rw [← e2] at z
      cases es with
      | nil => cases hne
      | cons _ _ => cases z
    · exact ⟨_, h15, q Le H2 _ s12 hD2 (s12.m.sets he) (every_ne hn) (fun S hS => hS) (Nat.le_refl _)⟩
  · refine rd_ite (fun z => absurd z (by decide)) (fun _ => ?_)
    exact ⟨_, h15, q Le _ _ s1 (hD1.le (by omega)) (s1.m.sets he) (every_ne hn) (fun S hS => hS) (Nat.le_refl _)⟩
end
end K31
set_option Elab.async false
set_option linter.all false
set_option maxRecDepth 100000
set_option maxHeartbeats 4000000
namespace K31
open PySem PySem.Spec PyProof.Rows L2 He
open C8 (Cal Met Mak pe_c pe_mk pe_mt pe_mt0 pe_gc)
/-! ### what stands beside what is drawn from -/
theorem DrawAt.mF {β : Type} {f : β → V} {H : Hp} {d l sm : Addr} {T : Nat} (h : DrawAt H d l sm T) {a : Addr} {es : List (Str × β)} (e : FDf f H a es) : FDf f (msk d l H) a es := by
  obtain ⟨o, e⟩ := e
  obtain ⟨q1, q2⟩ := h.ne e (fun _ z => nomatch z) (fun _ z => nomatch z)
  exact ⟨o, by rw [msk_at q1 q2]; exact e⟩
theorem DrawAt.mI {H : Hp} {d l sm : Addr} {T : Nat} (h : DrawAt H d l sm T) {a C dx : Addr} {fs : List (Str × V)} (e : H a = some (.ins C dx fs)) : msk d l H a = some (.ins C dx fs) := by
  obtain ⟨q1, q2⟩ := h.ne e (fun _ z => nomatch z) (fun _ z => nomatch z)
  rw [msk_at q1 q2]; exact e
theorem DrawAt.mForest {K : PySem.W.Frag} {H : Hp} {d l sm : Addr} {T : Nat} (h : DrawAt H d l sm T) {a : Addr} {es : List (Str × Str)} (e : ForestAt K H a es) : ForestAt K (msk d l H) a es := by
  obtain ⟨dx, b, e1, e2⟩ := e
  exact ⟨dx, b, h.mI e1, h.mF e2⟩
theorem DrawAt.mAsg {K : PySem.W.Frag} {H : Hp} {d l sm : Addr} {T : Nat} (h : DrawAt H d l sm T) {a f : Addr} {xs : List Str} (x1 : 1 ≤ xs.length) (e : AsgAt K H a f xs) : AsgAt K (msk d l H) a f xs := by
  obtain ⟨dx, b, e1, e2⟩ := e
  have hn : ∀ ys : List Int, HO.lst (xs.map V.str) ≠ .lst (ys.map V.int) := fun ys z => by
    cases xs with
    | nil => simp at x1
    | cons x xs => cases ys with
      | nil => cases z
      | cons y ys => cases z
  obtain ⟨q1, q2⟩ := h.ne e2 (fun _ z => nomatch z) hn
  exact ⟨dx, b, h.mI e1, by rw [msk_at q1 q2]; exact e2⟩
theorem DrawAt.mPin {K : PySem.W.Frag} {H : Hp} {d l sm : Addr} {T : Nat} (h : DrawAt H d l sm T) {a : Addr} {t : Told} (e : PinAt K H a t) : PinAt K (msk d l H) a t := by
  cases t with
  | must u x => obtain ⟨dx, e⟩ := e; exact ⟨dx, h.mI e⟩
  | never u x => obtain ⟨dx, e⟩ := e; exact ⟨dx, h.mI e⟩
  | stay u => obtain ⟨dx, e⟩ := e; exact ⟨dx, h.mI e⟩
theorem DrawAt.mCosts {H : Hp} {d l sm : Addr} {T : Nat} (h : DrawAt H d l sm T) {F : Addr} {rows : Rows} (x1 : 1 ≤ rows.length) (e : CostsAt H F rows) : CostsAt (msk d l H) F rows := by
  obtain ⟨cs, e1, e2, e3⟩ := e.ex
  have hn : ∀ ys : List Int, HO.lst (cs.map fun e => V.ref e.1) ≠ .lst (ys.map V.int) := fun ys z => by
    subst e2
    cases cs with
    | nil => simp at x1
    | cons x xs => cases ys with
      | nil => cases z
      | cons y ys => cases z
  obtain ⟨q1, q2⟩ := h.ne e1 (fun _ z => nomatch z) hn
  exact ⟨cs, by rw [msk_at q1 q2]; exact e1, e2, fun c hc => h.mF (e3 c hc)⟩
theorem DrawAt.mSets {H : Hp} {d l sm : Addr} {T : Nat} (h : DrawAt H d l sm T) {L : Addr} {ss : List (List Nat)} (h1 : L ≠ d) (h2 : L ≠ l) (e : SetsAt H L ss) : SetsAt (msk d l H) L ss := by
  obtain ⟨es, e1, e2, e3⟩ := e.ex
  exact ⟨es, by rw [msk_at h1 h2]; exact e1, e2, fun c hc => h.tup (e3 c hc)⟩
/-- what is_crowd and the law's own count are asked of -/
structure Ready (K : PySem.W.Frag) (H : Hp) (F r a s L f g : Addr) (fv : V) (lp lg : List (Str × Str)) (sl : List (Str × Int)) (xs gs : List Str) (qs : Pins) : Prop where
  ask : AskOk K H a s f g lp lg sl xs qs (fun x => gs.count x)
  pl : H L = some (.lst (qs.map fun e => V.ref e.1))
  costs : CostsAt H F (rowsOf lp lg (qs.map (·.2)) xs)
  rooms : FDf V.int H r (roomL lg fun x => gs.count x)
  p6 : qs.length ≤ 6
  hfv : (fv = .non ∧ g = f) ∨ fv = .ref g
theorem Sub.ready {K : PySem.W.Frag} {H H' : Hp} {F r a s L f g : Addr} {fv : V} {lp lg : List (Str × Str)} {sl : List (Str × Int)} {xs gs : List Str} {qs : Pins} (u : Sub H H') (h : Ready K H F r a s L f g fv lp lg sl xs gs qs) : Ready K H' F r a s L f g fv lp lg sl xs gs qs :=
  ⟨u.ask h.ask, u _ _ h.pl, u.costs h.costs, u.f h.rooms, h.p6, h.hfv⟩
section
variable {P : Program} {w : World} {K : PySem.W.Frag} {mg : Str → Option Value} {base : Heap}
/-! ### the things that is_crowd is asked of -/
theorem rd_things {v0 v1 v2 v3 v4 v5 v6 v7 v14 v15 v17 o19 v20 : Option V} {D : Ends} {H : Hp} {F r a s L f g Lc M : Addr} {fv : V} {lp lg : List (Str × Str)} {sl : List (Str × Int)} {xs gs : List Str} {qs : Pins} {ts cs : List V}
    (R : Ready K H F r a s L f g fv lp lg sl xs gs qs) (eM : H M = some (.lst ts)) (eL : H Lc = some (.lst cs)) (ht : ts.length ≤ 100) (hc : cs.length ≤ 1000) (gt : ∀ y ∈ ts, ∃ tv, ThAt K H y tv) (gc : ∀ y ∈ cs, ∃ tv, ThAt K H y tv)
    (q : ∀ (o : Option V) (H' : Hp), Sub H H' → D.nx [v0, v1, v2, v3, v4, v5, v6, v7, some (.ref r), some (.ref F), some (.ref a), some fv, some (.ref s), some (.ref L), v14, v15, some (.ref Lc), v17, some (.ref M), o, v20] H') :
    tFor (iList K (tOp rCat (tVar 18) (tSl (rSlL K) (tVar 16) tNoPart (tPart (tC (.int 2)))))) (gName 19) (tIfS (tTest (tOp rNe (tCB kReprB (tCons (tCall (sp_law_is_crowd K) [] C8.E0 (tCons (tVar 10) (tCons (tVar 12) (tCons (tVar 19) (tCons (tVar 13) (tCons (tVar 11) tNil)))))) tNil)) (tCB kReprB (tCons (tCall (sp_law_due K) [] C8.E0 (tCons (tVar 9) (tCons (tVar 8) (tCons (tVar 19) tNil)))) tNil)))) (tRet (tC (.bl false))) tNext) D
      [v0, v1, v2, v3, v4, v5, v6, v7, some (.ref r), some (.ref F), some (.ref a), some fv, some (.ref s), some (.ref L), v14, v15, some (.ref Lc), v17, some (.ref M), o19, v20] H := by
  refine ⟨_, rfl, _, rfl, _, rfl, ?_⟩
  refine rd_slLh (k := 2) (SqL.of eL) rfl fun p np => ?_
  have s1 : Sub H (upd H p (.lst (cs.take 2))) := Sub.new np
  refine ⟨M, p, ts, cs.take 2, rfl, rfl, s1 _ _ eM, upd_same, sz (by rw [List.length_take]; omega), fun N nN => ?_⟩
  have s2 := s1.trans (Sub.new (o := .lst (ts ++ cs.take 2)) nN)
  have eN : (upd (upd H p (.lst (cs.take 2))) N (.lst (ts ++ cs.take 2))) N = some (.lst (ts ++ cs.take 2)) := upd_same
  generalize upd (upd H p (.lst (cs.take 2))) N (.lst (ts ++ cs.take 2)) = H1 at s2 eN ⊢
  clear np nN s1
  have gall : ∀ y ∈ ts ++ cs.take 2, ∃ tv, ThAt K H y tv := fun y hy => (List.mem_append.mp hy).elim (gt y) fun h => gc y (List.mem_of_mem_take h)
  generalize ts ++ cs.take 2 = us at eN gall
  refine ⟨N, rfl, ⟨_, SqL.of eN⟩, ?_⟩
  letI : Inhabited V := ⟨.non⟩
  refine for_it (walkL (K := K) (a := N) (data := us) (f := id)) (fun i σ H' => ∃ o, σ = [v0, v1, v2, v3, v4, v5, v6, v7, some (.ref r), some (.ref F), some (.ref a), some fv, some (.ref s), some (.ref L), v14, v15, some (.ref Lc), v17, some (.ref M), o, v20] ∧ Sub H1 H')
    ⟨_, rfl, Sub.refl _⟩ (fun i σ H' _ ⟨_, _, s⟩ => SqL.of (by rw [List.map_id]; exact s _ _ eN)) ?_ (fun σ H' ⟨o, h1, h2⟩ => by subst h1; exact q o H' (s2.trans h2))
  rintro i x σ H2 H3 hi ⟨o, rfl, s3⟩ ⟨rfl, ex⟩
  obtain rfl : x = us[i] := Eq.trans (b := id (us.getD i default)) ex (get_D (f := id) hi)
  obtain ⟨tv, th⟩ := gall _ (List.getElem_mem hi)
  have s03 := s2.trans s3
  have th3 := s03.th th
  have R3 := s03.ready R
  refine ⟨_, rfl, _, rfl, _, rfl, _, rfl, _, rfl, a, s, L, f, g, us[i], fv, tv, lp, lg, sl, xs, qs, _, rfl, R3.ask, R3.pl, R3.p6, R3.hfv, th3, fun H4 s4 => ⟨_, rfl, ?_⟩⟩
  have R4 := s4.ready R3
  refine ⟨_, rfl, _, rfl, _, rfl, F, r, us[i], tv, _, lg, _, rfl, R4.costs, R4.rooms, R.ask.tg, s4.th th3, by rw [rowsOf_len]; exact R.ask.x60, fun H5 s5 => ⟨_, rfl, ?_⟩⟩
  refine ⟨rfl, _, rfl, ?_⟩
  rw [rowsOf_len, bT_ne]
  refine rd_ite (fun z => ?_) (fun _ => ⟨_, rfl, (s3.trans s4).trans s5⟩)
  simp at z
end
end K31
set_option Elab.async false
set_option linter.all false
set_option maxRecDepth 100000
set_option maxHeartbeats 4000000
namespace K31
open PySem PySem.Spec PyProof.Rows L2 He
open C8 (Cal Met Mak pe_c pe_mk pe_mt pe_mt0 pe_gc)
theorem subN_pin {K : PySem.W.Frag} {H H' : Hp} (s : SubN H H') {a : Addr} {t : Told} (e : PinAt K H a t) : PinAt K H' a t := by
  cases t with
  | must u x => obtain ⟨dx, e⟩ := e; exact ⟨dx, s _ _ e (fun _ z => nomatch z)⟩
  | never u x => obtain ⟨dx, e⟩ := e; exact ⟨dx, s _ _ e (fun _ z => nomatch z)⟩
  | stay u => obtain ⟨dx, e⟩ := e; exact ⟨dx, s _ _ e (fun _ z => nomatch z)⟩
section
variable {P : Program} {w : World} {K : PySem.W.Frag} {mg : Str → Option Value} {base : Heap}
/-- bent(draw, some[1], len(spots)) if isinstance(some[1], tuple) else () -/
theorem rd_third {σ : L2.St} {H : Hp} {Q : VK} {d l sm xa M : Addr} {x y : V} {T : Nat} {xs : List Str} (h1 : σ[1]? = some (some (.ref d))) (h4 : σ[4]? = some (some (.ref xa))) (h18 : σ[18]? = some (some (.ref M))) (hD : DrawAt H d l sm T) (hT : T ≤ 800000000)
    (ea : H xa = some (.lst (xs.map V.str))) (x60 : xs.length ≤ 60) (eM : H M = some (.lst [x, y])) (gy : GoodT K 29 (msk d l H) y) (q : ∀ z H', SubE d l H H' → DrawAt H' d l sm (T + 4) → (∃ tv, ThAt K (msk d l H') z tv) → Q z H') :
    tIf (tB (tCB (rIsi K) (tCons (tOp (rIxL K) (tVar 18) (tC (.int 1))) (tCons (tC (.ty "tuple")) tNil)))) (tCall (sp_law_bent K) [] C8.E0 (tCons (tVar 1) (tCons (tOp (rIxL K) (tVar 18) (tC (.int 1))) (tCons (tCB (kLenL K) (tCons (tVar 4) tNil)) tNil)))) (tTup tNil) σ H Q := by
  obtain ⟨tv, th, hl⟩ := gy
  cases tv with
  | none =>
    obtain ⟨n, ty, kb⟩ := th
    refine ⟨_, h18, M, _, ((1 : Nat) : Int), y, rfl, rfl, SqL.of eM, by rw [atI_n]; rfl, ?_⟩
    refine ⟨y, .ty "tuple", _, .type "tuple", false, rfl, .ty _, msk_sub.tyx ty, kit_ty kb, false, rfl, ?_⟩
    refine rd_ite (fun z => by cases z) (fun _ => ?_)
    refine ⟨sz (by simp), fun e ne => ?_⟩
    have s1 : Sub H (upd H e (.tup [])) := Sub.new ne
    have hD1 := hD.sub s1
    obtain ⟨tv, th, _⟩ := good_tup (K := K) (N := 60) (ws := []) hD1 upd_same (fun y hy => by simp at hy) (by simp) (Nat.le_refl _)
    exact q (.ref e) _ s1.e (hD1.le (by omega)) ⟨tv, th⟩
  | some ws =>
    obtain ⟨⟨py, rfl, ep⟩, hk, _⟩ := th
    have hws := hl ws rfl
    refine ⟨_, h18, M, _, ((1 : Nat) : Int), .ref py, rfl, rfl, SqL.of eM, by rw [atI_n]; rfl, ?_⟩
    refine ⟨.ref py, .ty "tuple", _, .type "tuple", true, rfl, .ty _, .base (.tup (msk_sub _ _ ep)), kit_ty (by decide +kernel), true, rfl, ?_⟩
    refine rd_ite (fun _ => ?_) (fun z => by cases z)
    refine ⟨_, h1, _, h18, M, _, ((1 : Nat) : Int), .ref py, rfl, rfl, SqL.of eM, by rw [atI_n]; rfl, ?_⟩
    refine ⟨_, h4, xa, _, rfl, .inl (SqL.of ea), ?_⟩
    refine ⟨d, l, sm, T, py, ws, _, rfl, hD, hT, msk_sub _ _ ep, hk, hws, by rw [List.length_map]; exact x60, fun z H' s1 hD1 g => ?_⟩
    obtain ⟨tv, th, _⟩ := g
    exact q z H' s1 hD1 ⟨tv, th⟩
theorem rd_foundT (T : Txt K mg) {σ : L2.St} {H : Hp} {Q : VK} {F r a s L f g : Addr} {fv : V} {lp lg : List (Str × Str)} {sl : List (Str × Int)} {xs gs : List Str} {qs : Pins} (h10 : σ[10]? = some (some (.ref a))) (h12 : σ[12]? = some (some (.ref s))) (h13 : σ[13]? = some (some (.ref L))) (h11 : σ[11]? = some (some fv)) (R : Ready K H F r a s L f g fv lp lg sl xs gs qs)
    (k : ∀ (v : V) (H' : Hp) (b : Bool), Sub H H' → FoundAt K H' v xs.length (fun S => tooMany (places lg) (fun x => gs.count x) (costOf (rowsOf lp lg (qs.map (·.2)) xs)) S) b → Q v H') :
    tCall (sp_law_found K) [] C8.E0 (tCons (tVar 10) (tCons (tVar 12) (tCons (tVar 13) (tCons (tVar 11) tNil)))) σ H Q := by
  refine ⟨_, h10, _, h12, _, h13, _, h11, ?_⟩
  show sp_law_found K [.ref a, .ref s, .ref L, fv] H Q C8.E0
  exact rd_found T R.ask R.pl R.p6 R.hfv k
end
end K31
set_option Elab.async false
set_option linter.all false
set_option maxRecDepth 100000
set_option maxHeartbeats 4000000
namespace K31
open PySem PySem.Spec PyProof.Rows L2 He
open C8 (Cal Met Mak pe_c pe_mk pe_mt pe_mt0 pe_gc)
/-- all stays but what lists hold -/
def Chg (H H' : Hp) : Prop := ∀ a o, H a = some o → H' a = some o ∨ ∃ xs ys, o = HO.lst xs ∧ H' a = some (.lst ys)
theorem Chg.to {H H' : Hp} (s : Chg H H') {a : Addr} {o : HO} (e : H a = some o) (h : ∀ xs, o ≠ .lst xs) : H' a = some o := (s a o e).elim id fun ⟨xs, _, e1, _⟩ => absurd e1 (h xs)
theorem Chg.tyo {K : PySem.W.Frag} {H H' : Hp} {x : V} {t : Value} (s : Chg H H') (h : TyOf K H x t) : TyOf K H' x t := by
  cases h with
  | non => exact .non
  | bl b => exact .bl b
  | int i => exact .int i
  | str i => exact .str i
  | flt i => exact .flt i
  | lst e =>
    rcases s _ _ e with h | ⟨_, _, _, h⟩
    · exact .lst h
    · exact .lst h
  | frz e => exact .frz (s.to e fun _ z => nomatch z)
  | tup e => exact .tup (s.to e fun _ z => nomatch z)
  | dK e => exact .dK (s.to e fun _ z => nomatch z)
  | dT e => exact .dT (s.to e fun _ z => nomatch z)
  | ins e a b c d f => exact .ins (s.to e fun _ z => nomatch z) a b c d f
theorem Chg.tyx {K : PySem.W.Frag} {H H' : Hp} {x : V} {t : Value} (s : Chg H H') (h : TyX K H x t) : TyX K H' x t := by
  cases h with
  | base h => exact .base (s.tyo h)
  | byt b => exact .byt b
  | set e => exact .set (s.to e fun _ z => nomatch z)
  | kList e c => exact .kList e c
  | kTuple e c => exact .kTuple e c
  | kDict e c => exact .kDict e c
  | fTuple e => exact .fTuple (s.to e fun _ z => nomatch z)
  | fDict e => exact .fDict (s.to e fun _ z => nomatch z)
theorem Chg.th {K : PySem.W.Frag} {H H' : Hp} {x : V} {tv : Option (List V)} (s : Chg H H') (h : ThAt K H x tv) : ThAt K H' x tv := by
  cases tv with
  | none => obtain ⟨n, a, b⟩ := h; exact ⟨n, s.tyx a, b⟩
  | some vs =>
    obtain ⟨⟨p, a, b⟩, c, d⟩ := h
    refine ⟨⟨p, a, s.to b fun _ z => nomatch z⟩, fun y hy => ?_, d⟩
    rcases c y hy with h | h | ⟨n, h1, h2⟩
    · exact .inl h
    · exact .inr (.inl h)
    · exact .inr (.inr ⟨n, s.tyx h1, h2⟩)
section
variable {P : Program} {w : World} {K : PySem.W.Frag} {mg : Str → Option Value} {base : Heap}
/-- the turn's end: one row, what it is bent to, the questions -/
def t_lawB (K : PySem.W.Frag) : TS := tSeq (tAsg (tCall (sp_law_pick K) [] C8.E0 (tCons (tVar 1) (tCons (tIf (tAnd (tTest (tOp (rNeD K) (tVar 16) (tLst tNil))) (tTest (tOp rEq (tCall sp_law_take [] C8.E0 (tCons (tVar 1) (tCons (tC (.int 2)) tNil))) (tC (.int 0))))) (tVar 16) (tVar 15)) tNil))) (gName 17))
  (tSeq (tAsg (tLst (tCons (tVar 17) (tCons (tCall (sp_law_bent K) [] C8.E0 (tCons (tVar 1) (tCons (tVar 17) (tCons (tCB (kLenL K) (tCons (tVar 4) tNil)) tNil)))) tNil))) (gName 18))
  (tSeq (tDrop (tBM K "list" rAppend (tVar 18) (tCons (tIf (tB (tCB (rIsi K) (tCons (tOp (rIxL K) (tVar 18) (tC (.int 1))) (tCons (tC (.ty "tuple")) tNil)))) (tCall (sp_law_bent K) [] C8.E0 (tCons (tVar 1) (tCons (tOp (rIxL K) (tVar 18) (tC (.int 1))) (tCons (tCB (kLenL K) (tCons (tVar 4) tNil)) tNil)))) (tTup tNil)) tNil)))
  (tFor (iList K (tOp rCat (tVar 18) (tSl (rSlL K) (tVar 16) tNoPart (tPart (tC (.int 2)))))) (gName 19) (tIfS (tTest (tOp rNe (tCB kReprB (tCons (tCall (sp_law_is_crowd K) [] C8.E0 (tCons (tVar 10) (tCons (tVar 12) (tCons (tVar 19) (tCons (tVar 13) (tCons (tVar 11) tNil)))))) tNil)) (tCB kReprB (tCons (tCall (sp_law_due K) [] C8.E0 (tCons (tVar 9) (tCons (tVar 8) (tCons (tVar 19) tNil)))) tNil)))) (tRet (tC (.bl false))) tNext))))
theorem rd_lawB {D : Ends} {H : Hp} {v0 v2 v3 v5 v6 v7 v14 v17 v18 v19 v20 : Option V} {d l sm xa F r a s L f g Le Lc : Addr} {T : Nat} {fv : V} {lp lg : List (Str × Str)} {sl : List (Str × Int)} {xs gs : List Str} {qs : Pins} {c : List Nat → Bool}
    (hD : DrawAt H d l sm T) (hT : T ≤ 5000) (x1 : 1 ≤ xs.length) (x8 : xs.length ≤ 8) (ea : msk d l H xa = some (.lst (xs.map V.str))) (R : Ready K (msk d l H) F r a s L f g fv lp lg sl xs gs qs) (eS : SetsAt (msk d l H) Le (everyOf xs.length)) (eC : SetsAt (msk d l H) Lc ((everyOf xs.length).filter c))
    (q : ∀ (u17 u18 u19 : Option V) (H' : Hp), DrawAt H' d l sm (T + 10) → D.nx [v0, some (.ref d), v2, v3, some (.ref xa), v5, v6, v7, some (.ref r), some (.ref F), some (.ref a), some fv, some (.ref s), some (.ref L), v14, some (.ref Le), some (.ref Lc), u17, u18, u19, v20] H') :
    t_lawB K D [v0, some (.ref d), v2, v3, some (.ref xa), v5, v6, v7, some (.ref r), some (.ref F), some (.ref a), some fv, some (.ref s), some (.ref L), v14, some (.ref Le), some (.ref Lc), v17, v18, v19, v20] H := by
  refine ⟨_, rfl, ?_⟩
  refine rd_row rfl rfl rfl hD (by omega) x1 eS eC fun L' H18 ss s1718 hD18 eL' hne hsub hlen => ?_
  obtain ⟨es, e1, e2, e3⟩ := eL'.ex
  have hel : es.length = ss.length := by rw [← e2, List.length_map]
  have h256 := every_len x8
  have hss : 1 ≤ ss.length := by
    cases ss with
    | nil => exact absurd rfl hne
    | cons _ _ => simp
  refine ⟨d, l, sm, _, .ref L', es.map (fun e => V.ref e.1), rfl, hD18, by omega, .inl ⟨L', rfl, .inl (SqL.of e1)⟩, by rw [List.length_map]; omega, by rw [List.length_map]; omega, fun y H19 hy s1819 hD19 => ?_⟩
  obtain ⟨e, he, rfl⟩ := List.mem_map.mp hy
  have hm : e.2 ∈ everyOf xs.length := hsub _ (by rw [← e2]; exact List.mem_map.mpr ⟨e, he, rfl⟩)
  obtain ⟨_, hasc, hlt⟩ := everyOf_iff.mp hm
  have hS8 : e.2.length ≤ 8 := by
    have := ndsub_len (asc_nodup hasc) (m := List.range xs.length) fun u hu => List.mem_range.mpr (hlt u hu)
    rw [List.length_range] at this
    omega
  have er := s1819.m _ _ (e3 e he)
  have s1719 := s1718.trans s1819
  have ea19 := s1719.m _ _ ea
  generalize e.1 = rw_ at er
  generalize e.2 = S at er hS8
  clear hm hasc hlt hy he e1 e2 e3 eL' hel h256 hss hne hsub hlen hD hD18 s1718 s1819
  -- the row and what it is bent to
  refine ⟨_, rfl, _, rfl, _, rfl, _, rfl, xa, _, rfl, .inl (SqL.of (msk_sub _ _ ea19)), ?_⟩
  refine ⟨d, l, sm, _, rw_, intsV S, _, rfl, hD19, by omega, msk_sub _ _ er, fun y hy => ?_, by rw [List.length_map]; omega, by rw [List.length_map]; omega, fun y H20 s1920 hD20 gy => ?_⟩
  · obtain ⟨i, _, rfl⟩ := List.mem_map.mp hy
    exact .inl ⟨_, rfl⟩
  refine ⟨sz (by simp), fun M nM => ?_⟩
  have sM : Sub H20 (upd H20 M (.lst [.ref rw_, y])) := Sub.new nM
  have eM : (upd H20 M (.lst [.ref rw_, y])) M = some (.lst [.ref rw_, y]) := upd_same
  obtain ⟨M1, M2⟩ := hD20.new nM
  have M3 := hD20.sm_ne nM
  have hD21 := hD20.sub sM
  have gy21 := (sM.e (d := d) (l := l)).m.good gy
  have s1921 := s1920.trans (sM.e (d := d) (l := l))
  have nMH : msk d l H20 M = none := msk_none nM
  generalize upd H20 M (.lst [.ref rw_, y]) = H21 at sM eM hD21 gy21 s1921 ⊢
  have s1721 := s1719.trans s1921
  have ea21 := s1721.m _ _ ea
  refine ⟨_, rfl, .inl ⟨rfl, _, SqL.of eM⟩, ?_⟩
  obtain ⟨tv, th, htl⟩ := gy21
  refine rd_third rfl rfl rfl hD21 (by omega) (msk_sub _ _ ea21) (by omega) eM ⟨tv, th, fun ws h => Nat.le_trans (htl ws h) (by unfold intsV; rw [List.length_map]; omega)⟩ fun z H22 s2122 hD22 gz => ?_
  have eM22 := s2122 _ _ M1 M2 eM
  refine ⟨M, _, z, rfl, rfl, eM22, szl (by simp), ?_⟩
  -- all is as it was beside the list
  have nMd : ∀ {b : Addr} {o : HO}, msk d l H20 b = some o → b ≠ M := fun e z => by rw [z, nMH] at e; cases e
  have s0 : Sub (msk d l H20) (upd H22 M (.lst ([.ref rw_, y] ++ [z]))) := fun b o e => by
    rw [upd_ne (nMd e)]
    exact msk_sub _ _ (s2122.m _ _ ((sM.e (d := d) (l := l)).m _ _ e))
  have ch : Chg H22 (upd H22 M (.lst ([.ref rw_, y] ++ [z]))) := fun b o e => by
    by_cases hb : b = M
    · subst hb
      rw [eM22] at e
      exact .inr ⟨_, _, (Option.some.inj e).symm, upd_same⟩
    · exact .inl ((upd_ne hb).trans e)
  have hD23 := hD22.put (o := .lst ([.ref rw_, y] ++ [z])) M1 M2 M3
  have eM23 : (upd H22 M (.lst ([.ref rw_, y] ++ [z]))) M = some (.lst ([.ref rw_, y] ++ [z])) := upd_same
  generalize upd H22 M (.lst ([.ref rw_, y] ++ [z])) = H23 at s0 ch hD23 eM23 ⊢
  have sH : Sub (msk d l H) H23 := ((s1719.trans s1920).m).trans s0
  obtain ⟨cs, c1, c2, c3⟩ := eC.ex
  have hS : ∀ {S : List Nat} {p : Addr}, S.length ≤ 8 → H23 p = some (.tup (intsV S)) → ∃ tv, ThAt K H23 (.ref p) tv := fun {S p} h e => ⟨some (intsV S), ⟨p, rfl, e⟩, fun y hy => by
    obtain ⟨i, _, rfl⟩ := List.mem_map.mp hy
    exact .inl ⟨_, rfl⟩, by unfold intsV; rw [List.length_map]; omega⟩
  have hc8 : ∀ e ∈ cs, e.2.length ≤ 8 := fun e he => by
    have h1 : e.2 ∈ (everyOf xs.length).filter c := by rw [← c2]; exact List.mem_map.mpr ⟨e, he, rfl⟩
    obtain ⟨_, hasc, hlt⟩ := everyOf_iff.mp (List.mem_filter.mp h1).1
    have := ndsub_len (asc_nodup hasc) (m := List.range xs.length) fun u hu => List.mem_range.mpr (hlt u hu)
    rw [List.length_range] at this
    omega
  have hcl : cs.length ≤ 256 := by
    have h1 := congrArg List.length c2
    rw [List.length_map] at h1
    rw [h1]
    exact Nat.le_trans (List.length_filter_le _ _) (every_len x8)
  refine rd_things (sH.ready R) eM23 (sH _ _ c1) (by simp) (by rw [List.length_map]; omega) (fun y' hy => ?_) (fun y' hy => ?_) (fun o H24 s24 => ?_)
  · simp only [List.mem_append, List.mem_cons, List.not_mem_nil, or_false] at hy
    rcases hy with (rfl | rfl) | rfl
    · exact hS hS8 (s0 _ _ (s1920.m _ _ er))
    · obtain ⟨tv, th, _⟩ := gy
      exact ⟨tv, s0.th th⟩
    · obtain ⟨tv, th⟩ := gz
      exact ⟨tv, ch.th (msk_sub.th th)⟩
  · obtain ⟨e, he, rfl⟩ := List.mem_map.mp hy
    exact hS (hc8 e he) (sH _ _ (c3 e he))
  · exact q _ _ _ H24 ((hD23.sub s24).le (by omega))
end
end K31
set_option Elab.async false
set_option linter.all false
set_option maxRecDepth 100000
set_option maxHeartbeats 4000000
namespace K31
open PySem PySem.Spec PyProof.Rows L2 He
open C8 (Cal Met Mak pe_c pe_mk pe_mt pe_mt0 pe_gc)
section
variable {P : Program} {w : World} {K : PySem.W.Frag} {mg : Str → Option Value} {base : Heap}
/-- the turn from what is found on -/
def t_lawA (K : PySem.W.Frag) : TS := tSeq (tAsg (tCall (sp_law_found K) [] C8.E0 (tCons (tVar 10) (tCons (tVar 12) (tCons (tVar 13) (tCons (tVar 11) tNil))))) (gName 14))
  (tSeq (tAsg (tCall (sp_law_sets K) [] C8.E0 (tCons (tCB (kLenL K) (tCons (tVar 4) tNil)) tNil)) (gName 15))
  (tSeq (tAsg (tLc (iList K (tVar 15)) (gName 17) (tB (tCall (sp_law_too_many K) [] E0 (tCons (tVar 9) (tCons (tVar 8) (tCons (tVar 17) tNil))))) (tVar 17) [17]) (gName 16))
  (tSeq (tIfS (tOr (tTest (tOp rNe (tCB (rIsi K) (tCons (tVar 14) (tCons (tC (.ty "tuple")) tNil))) (tOp (rNeD K) (tVar 16) (tLst tNil)))) (tAnd (tB (tCB (rIsi K) (tCons (tVar 14) (tCons (tC (.ty "tuple")) tNil)))) (tTest (tOp (rNotInD K) (tVar 14) (tVar 16))))) (tRet (tC (.bl false))) tNext) (t_lawB K))))
theorem rd_lawA (T : Txt K mg) {D : Ends} {H13 : Hp} {v0 v2 v3 v5 v6 v7 v14 v15 v16 v17 v18 v19 v20 : Option V} {d l sm xa F r a1 s L f gg : Addr} {T0 : Nat} {fv : V} {lp lg : List (Str × Str)} {sl : List (Str × Int)} {xs gs : List Str} {qs : Pins}
    (hD13 : DrawAt H13 d l sm T0) (hT : T0 ≤ 4000) (x1 : 1 ≤ xs.length) (x8 : xs.length ≤ 8) (eaM : msk d l H13 xa = some (.lst (xs.map V.str))) (R : Ready K (msk d l H13) F r a1 s L f gg fv lp lg sl xs gs qs)
    (q : ∀ (u14 u15 u16 u17 u18 u19 : Option V) (H' : Hp), DrawAt H' d l sm (T0 + 10) → D.nx [v0, some (.ref d), v2, v3, some (.ref xa), v5, v6, v7, some (.ref r), some (.ref F), some (.ref a1), some fv, some (.ref s), some (.ref L), u14, u15, u16, u17, u18, u19, v20] H') :
    t_lawA K D [v0, some (.ref d), v2, v3, some (.ref xa), v5, v6, v7, some (.ref r), some (.ref F), some (.ref a1), some fv, some (.ref s), some (.ref L), v14, v15, v16, v17, v18, v19, v20] H13 := by
  have tg := R.ask.tg
  refine rd_foundT T rfl rfl rfl rfl (msk_sub.ready R) fun v H14 b s1314 fd => ?_
  generalize hc : (fun S : List Nat => tooMany (places lg) (fun x => gs.count x) (costOf (rowsOf lp lg (qs.map (·.2)) xs)) S) = c at fd
  -- all sets
  have ea14 := s1314 _ _ (msk_sub _ _ eaM)
  refine ⟨_, rfl, xa, _, rfl, .inl (SqL.of ea14), (xs.map V.str).length, rfl, by rw [List.length_map]; exact x8, fun Le H15 nLe s1415 eS => ?_⟩
  rw [List.length_map] at eS
  have hD14 := hD13.sub s1314
  have hD15 := hD14.sub s1415
  obtain ⟨Le1, Le2⟩ := hD14.new nLe
  have s1315 := s1314.trans s1415
  have R15 := s1315.ready (msk_sub.ready R)
  have fd15 := s1415.found fd
  obtain ⟨es, g1, g2, g3⟩ := eS.ex
  have hmem : ∀ e ∈ es, e.2.length ≤ 8 ∧ ∀ u ∈ e.2, u < xs.length := fun e he => by
    have hm : e.2 ∈ everyOf xs.length := by rw [← g2]; exact List.mem_map.mpr ⟨e, he, rfl⟩
    obtain ⟨_, h1, h2⟩ := everyOf_iff.mp hm
    have := ndsub_len (asc_nodup h1) (m := List.range xs.length) fun u hu => List.mem_range.mpr (h2 u hu)
    rw [List.length_range] at this
    exact ⟨by omega, h2⟩
  have hel : es.length ≤ 256 := by
    have h1 := congrArg List.length g2
    rw [List.length_map] at h1
    rw [h1]
    exact every_len x8
  -- the crowds
  refine ⟨_, rfl, Le, rfl, ⟨_, SqL.of g1⟩, ?_⟩
  refine k_lcD (data := es) (toV := fun e : Addr × List Nat => V.ref e.1) (walkL (K := K) (a := Le) (data := es) (f := fun e : Addr × List Nat => V.ref e.1)) (fun H' s => SqL.of (s _ _ g1)) (fun e => c e.2) (fun e => .ref e.1) (by omega) (fun j e H' he s' Q' q' => ?_) (fun j e H' _ _ s' Q' q' => ⟨_, rfl, q' _ _ (Sub.refl _) rfl⟩) (fun Lc H16 nLc s1516 eLc => ?_)
  · have hme := List.mem_of_getElem? he
    have R' := s'.ready R15
    refine ⟨_, rfl, _, rfl, _, rfl, F, r, e.1, _, lg, _, e.2, rfl, R'.costs, R'.rooms, tg, s' _ _ (g3 e hme), by rw [rowsOf_len]; exact (hmem e hme).2, by have := (hmem e hme).1; omega, fun H'' s'' => ⟨_, rfl, ?_⟩⟩
    have := q' H'' s''
    rw [← hc] at this
    exact this
  have eC : SetsAt H16 Lc ((everyOf xs.length).filter c) := ⟨es.filter fun e => c e.2, eLc, by rw [← g2, List.filter_map]; rfl, fun e he => s1516 _ _ (g3 e (List.mem_filter.mp he).1)⟩
  have hD16 := hD15.sub s1516
  obtain ⟨Lc1, Lc2⟩ := hD15.new nLc
  have eS16 := s1516.sets eS
  have fd16 := s1516.found fd15
  clear hmem hel g1 g2 g3 nLc eLc nLe fd fd15 R15 eS s1415 ea14 hD14 hD15
  -- the first test
  refine rd_test rfl rfl fd16 eC fun H17 s1617 => ?_
  refine rd_ite (fun z => by cases z) (fun _ => ?_)
  have s1317 := (s1315.trans s1516).trans s1617
  have hD17 := hD16.sub s1617
  have eS17 := hD17.mSets Le1 Le2 (s1617.sets eS16)
  have eC17 := hD17.mSets Lc1 Lc2 (s1617.sets eC)
  have R17 := (s1317.e (d := d) (l := l)).m.ready R
  have ea17 := (s1317.e (d := d) (l := l)).m _ _ eaM
  clear s1617 s1516 s1315 s1314 fd16 eC eS16 hD16 hD13 s1317 eaM R
  exact rd_lawB hD17 (by omega) x1 x8 ea17 R17 eS17 eC17 fun u17 u18 u19 H' hD' => q _ _ _ _ _ _ H' hD'
end
end K31
set_option Elab.async false
set_option linter.all false
set_option maxRecDepth 100000
set_option maxHeartbeats 4000000
namespace K31
open PySem PySem.Spec PyProof.Rows L2 He
open C8 (Cal Met Mak pe_c pe_mk pe_mt pe_mt0 pe_gc)
section
variable {P : Program} {w : World} {K : PySem.W.Frag} {mg : Str → Option Value} {base : Heap}
/-! ### law -/
def sp_law (K : PySem.W.Frag) : Sp := fun vs H Q _ => ∃ (a : Addr) (ns : List Int), vs = [.ref a] ∧ SqL K H a (ns.map V.int) ∧ ns.length ≤ 63 ∧ ∀ H', Q (.bl true) H'
abbrev n_law : List Str := ["_law_script", "_law_draw", "_law_turn", "_law_parents_here", "_law_spots_here", "_law_web", "_law_goals", "_law_tolds_here", "_law_rooms_here", "_law_costs_here", "_law_start", "_law_place", "_law_sizes_here", "_law_pins", "_law_found_here", "_law_every", "_law_crowds", "_law_row", "_law_some", "_law_thing", "_law_told"]
theorem sc_law : FnScope n_law ["_law_script"] (defScope slaw) := ⟨rfl, rfl, rfl, by decide +kernel, rfl, by decide +kernel, by decide +kernel⟩
theorem body_law (T : Txt K mg) (S : TxtS P K mg) (f0 : Addr) (cdv : Value) (A : Around) (outer : List Env) (s0 : Shared) (H : Hp) (vs : List V) (Q : VK) (E : XK) (hr : Room 20 (A.deeper (envOfC "law" (defScope slaw) s0.heap.objs.size f0 cdv))) (h : sp_law K vs H Q E) :
    ∃ t, PSs (cxOf CX0 P w K mg base n_law "law" (defScope slaw) f0 cdv A outer s0 H E).nox (defBody slaw) t ∧ t { nx := fun _ H' => Q .non H', rt := Q } (L2.start n_law vs) H := by
  obtain ⟨a, ns, rfl, ha, h63, k⟩ := h
  have hu := hu_of hr
  refine ⟨_, (pss_cons (ps_set (i := 1) sc_law.nd rfl (.inl rfl) (pe_c (ok_law_begin T) hr (by decide) rfl (pa_cons (pv 0) pa_nil)))
  (pss_cons (ps_for PassesOwn.never rfl (pi_range1 rfl T.n_range (pa_cons (pe_op op_add pe_int (pe_callB (call_min2 rfl) rfl T.n_min (by decide +kernel) (pa_cons (pe_callB c_lenL rfl T.n_len (by decide +kernel) (pa_cons (pv 0) pa_nil)) (pa_cons pe_int pa_nil)))) pa_nil)) (pg_name (i := 2) sc_law.nd rfl (.inl rfl))
  (pss_cons (ps_asg (pe_c (ok_law_drawn T) hr (by decide) rfl (pa_cons (pv 1) pa_nil)) (pg_tup (n := 5) rfl (pgs_cons (pg_name (i := 3) sc_law.nd rfl (.inl rfl)) (pgs_cons (pg_name (i := 4) sc_law.nd rfl (.inl rfl)) (pgs_cons (pg_name (i := 5) sc_law.nd rfl (.inl rfl)) (pgs_cons (pg_name (i := 6) sc_law.nd rfl (.inl rfl)) (pgs_cons (pg_name (i := 7) sc_law.nd rfl (.inl rfl)) pgs_nil)))))))
  (pss_cons (ps_asg (pe_tup (pa_cons (pe_c (ok_law_rooms T) hr (by decide) rfl (pa_cons (pv 5) (pa_cons (pv 6) pa_nil))) (pa_cons (pe_c (ok_law_costs T) hr (by decide) rfl (pa_cons (pv 3) (pa_cons (pv 4) (pa_cons (pv 5) (pa_cons (pv 7) pa_nil))))) pa_nil))) (pg_tup (n := 2) rfl (pgs_cons (pg_name (i := 8) sc_law.nd rfl (.inr rfl)) (pgs_cons (pg_name (i := 9) sc_law.nd rfl (.inr rfl)) pgs_nil))))
  (pss_cons (ps_par3 (i := 10) (j := 11) (l := 12) rfl sc_law.nd rfl rfl rfl (by decide) (by decide) (by decide) rfl rfl rfl (pa_cons (pe_mk (mk_Assignment T) hr (by decide) rfl (pa_cons (pe_mk (mk_Forest T) hr (by decide) rfl (pa_cons (pv 3) pa_nil)) (pa_cons (pv 4) pa_nil))) (pa_cons (pe_mk (mk_Forest T) hr (by decide) rfl (pa_cons (pv 5) pa_nil)) (pa_cons (pe_c (ok_law_sizes T) hr (by decide) rfl (pa_cons (pv 5) (pa_cons (pv 6) pa_nil))) pa_nil))) (by rfl))
  (pss_cons (ps_setLc (i := 13) (own := [("_law_told", 20)]) (g := (gName 20)) (tt := tYes) (te := (tCall (sp_law_pin K) [] E0 (tCons (tVar 20) tNil))) rfl sc_law.nd rfl rfl (sw_true rfl rfl rfl (by decide +kernel)) (pi_list (pv 7)) (blkOk_by (N := n_law) (sc := defScope slaw) (by decide +kernel)) (fun _ _ _ _ _ => (pg_name (i := 20) sc_law.nd rfl (.inl rfl))) (fun _ _ _ _ _ => pts_nil) (fun _ _ _ _ _ => (pe_c (ok_law_pin T S) hr (by decide) rfl (pa_cons (pv 20) pa_nil))))
  (pss_cons (ps_set (i := 11) sc_law.nd rfl (.inl rfl) (pe_ifExp (PW.pt (pw_and (pt_cmpR (op_eqDS hr.units0) (pv 5) (pv 3) (nomark _)) (pw_and1 (pt_cmpR op_eq (pe_c (ok_law_take T) hr (by decide) rfl (pa_cons (pv 1) (pa_cons pe_int pa_nil))) pe_int (nomark _))))) pe_non (pv 11)))
  (pss_cons (ps_set (i := 14) sc_law.nd rfl (.inl rfl) (pe_c (ok_law_found T) hr (by decide) rfl (pa_cons (pv 10) (pa_cons (pv 12) (pa_cons (pv 13) (pa_cons (pv 11) pa_nil))))))
  (pss_cons (ps_set (i := 15) sc_law.nd rfl (.inl rfl) (pe_c (ok_law_sets T) hr (by decide) rfl (pa_cons (pe_callB c_lenL rfl T.n_len (by decide +kernel) (pa_cons (pv 4) pa_nil)) pa_nil)))
  (pss_cons (ps_setLc (i := 16) (own := [("_law_row", 17)]) (g := (gName 17)) (tt := (tB (tCall (sp_law_too_many K) [] E0 (tCons (tVar 9) (tCons (tVar 8) (tCons (tVar 17) tNil)))))) (te := (tVar 17)) rfl sc_law.nd rfl rfl (sw_true rfl rfl rfl (by decide +kernel)) (pi_list (pv 15)) (blkOk_by (N := n_law) (sc := defScope slaw) (by decide +kernel)) (fun _ _ _ _ _ => (pg_name (i := 17) sc_law.nd rfl (.inl rfl))) (fun _ _ _ _ _ => pts_one (pt_val (pe_c (ok_law_too_many T) hr (by decide) rfl (pa_cons (pv 9) (pa_cons (pv 8) (pa_cons (pv 17) pa_nil)))))) (fun _ _ _ _ _ => (pv 17)))
  (pss_cons (ps_if (PW.pt (pw_or (pt_cmpR op_ne (pe_callB call_isi rfl T.n_isinstance (by decide +kernel) (pa_cons (pv 14) (pa_cons (pe_ty (n := "tuple") rfl T.n_tuple (by decide +kernel)) pa_nil))) (pe_cmpR (op_neD hr.units) (pv 16) (pe_lst pa_nil) (nomark _)) (nomark _)) (pw_or1 (PW.pt (pw_and (pt_val (pe_callB call_isi rfl T.n_isinstance (by decide +kernel) (pa_cons (pv 14) (pa_cons (pe_ty (n := "tuple") rfl T.n_tuple (by decide +kernel)) pa_nil)))) (pw_and1 (pt_cmpR (op_notInD (Room.units2 hr)) (pv 14) (pv 16) rfl))))))) (pss_one (ps_ret pe_bl)) pss_nil)
  (pss_cons (ps_set (i := 17) sc_law.nd rfl (.inl rfl) (pe_c (ok_law_pick T) hr (by decide) rfl (pa_cons (pv 1) (pa_cons (pe_ifExp (PW.pt (pw_and (pt_cmpR (op_neD hr.units) (pv 16) (pe_lst pa_nil) (nomark _)) (pw_and1 (pt_cmpR op_eq (pe_c (ok_law_take T) hr (by decide) rfl (pa_cons (pv 1) (pa_cons pe_int pa_nil))) pe_int (nomark _))))) (pv 16) (pv 15)) pa_nil))))
  (pss_cons (ps_set (i := 18) sc_law.nd rfl (.inl rfl) (pe_lst (pa_cons (pv 17) (pa_cons (pe_c (ok_law_bent T) hr (by decide) rfl (pa_cons (pv 1) (pa_cons (pv 17) (pa_cons (pe_callB c_lenL rfl T.n_len (by decide +kernel) (pa_cons (pv 4) pa_nil)) pa_nil)))) pa_nil))))
  (pss_cons (ps_expr (pe_bm PySem.F.plainAttrs_list PySem.F.slot_list_append PySem.F.type_list_append mt_append (pv 18) (pa_cons (pe_ifExp (pt_val (pe_callB call_isi rfl T.n_isinstance (by decide +kernel) (pa_cons (pe_ix ix_list (pv 18) pe_int (fun _ _ => rfl)) (pa_cons (pe_ty (n := "tuple") rfl T.n_tuple (by decide +kernel)) pa_nil)))) (pe_c (ok_law_bent T) hr (by decide) rfl (pa_cons (pv 1) (pa_cons (pe_ix ix_list (pv 18) pe_int (fun _ _ => rfl)) (pa_cons (pe_callB c_lenL rfl T.n_len (by decide +kernel) (pa_cons (pv 4) pa_nil)) pa_nil)))) (pe_tup pa_nil)) pa_nil)))
  (pss_one (ps_for PassesOwn.never rfl (pi_list (pe_op op_cat (pv 18) (pe_slice sl_list (pv 16) po_none (po_some pe_int)))) (pg_name (i := 19) sc_law.nd rfl (.inl rfl))
  (pss_one (ps_if (pt_cmpR op_ne (pe_callB c_reprB rfl T.n_repr (by decide +kernel) (pa_cons (pe_c (ok_law_is_crowd T) hr (by decide) rfl (pa_cons (pv 10) (pa_cons (pv 12) (pa_cons (pv 19) (pa_cons (pv 13) (pa_cons (pv 11) pa_nil)))))) pa_nil)) (pe_callB c_reprB rfl T.n_repr (by decide +kernel) (pa_cons (pe_c (ok_law_due T) hr (by decide) rfl (pa_cons (pv 9) (pa_cons (pv 8) (pa_cons (pv 19) pa_nil)))) pa_nil)) (nomark _)) (pss_one (ps_ret pe_bl)) pss_nil)))))))))))))))))
  (pss_one (ps_ret pe_bl)))), ?_⟩
  refine ⟨_, rfl, a, ns, rfl, ha, h63, fun d l sm H1 nd s1 hD1 => ?_⟩
  refine ⟨_, rfl, a, _, rfl, .inl (s1.l ha), _, _, rfl, _, _, rfl, rfl, ?_⟩
  obtain ⟨n, hn, hn11⟩ : ∃ n : Nat, (3 : Int) + (if (8 : Int) < ((ns.map V.int).length : Int) then 8 else ((ns.map V.int).length : Int)) = (n : Int) ∧ n ≤ 11 := ⟨3 + min ns.length 8, by rw [List.length_map]; split <;> omega, by omega⟩
  refine ⟨(n : Int), congrArg (fun z : Int => [V.int z]) hn, by omega, by omega, ?_⟩
  rw [show (n : Int).toNat = n by omega]
  refine for_it walk_range (fun i σ H' => ∃ v2 v3 v4 v5 v6 v7 v8 v9 v10 v11 v12 v13 v14 v15 v16 v17 v18 v19 : Option V, σ = [some (.ref a), some (.ref d), v2, v3, v4, v5, v6, v7, v8, v9, v10, v11, v12, v13, v14, v15, v16, v17, v18, v19, none] ∧ DrawAt H' d l sm (i * 220))
    ⟨_, _, _, _, _, _, _, _, _, _, _, _, _, _, _, _, _, _, rfl, hD1.le (by omega)⟩ (fun _ _ _ _ _ => True.intro) ?_ (fun σ H' ⟨_, _, _, _, _, _, _, _, _, _, _, _, _, _, _, _, _, _, _, _⟩ => k H')
  rintro i x σ H2 H3 hi ⟨v2, v3, v4, v5, v6, v7, v8, v9, v10, v11, v12, v13, v14, v15, v16, v17, v18, v19, rfl, hD3⟩ ⟨rfl, rfl⟩
  clear hD1 s1 nd ha hn h63 k
  generalize hT : i * 220 = T0 at hD3
  have hT0 : T0 ≤ 3000 := by omega
  have hTn : (i + 1) * 220 = T0 + 220 := by omega
  rw [hTn]
  clear hTn hT
  -- what is drawn
  refine ⟨_, rfl, d, l, sm, T0, rfl, hD3, by omega, fun t p xa g0 ga_ q0 H4 lp lg xs gs ps s34 hD4 et Dr => ?_⟩
  refine ⟨t, _, rfl, SqT.of (msk_sub _ _ et), rfl, _, _, rfl, _, _, rfl, _, _, rfl, _, _, rfl, _, _, rfl, rfl, ?_⟩
  have fpH := msk_sub.f Dr.fp
  have fgH := msk_sub.f Dr.fg
  have eaH := msk_sub _ _ Dr.ea
  have ebH := msk_sub _ _ Dr.eb
  have ltH := msk_sub.lts Dr.lt
  have tp := Dr.tp
  have tg := Dr.tg
  -- rooms, costs
  refine ⟨_, rfl, _, rfl, g0, ga_, lg, gs, rfl, fgH, tg, SqL.of ebH, fun r H5 nr s45 er => ?_⟩
  refine ⟨_, rfl, _, rfl, _, rfl, _, rfl, p, xa, g0, q0, lp, lg, xs, ps, rfl, s45.f fpH, tp, s45 _ _ eaH, Dr.xp, by have := Dr.x8; omega, s45.f fgH, tg, s45.lts ltH, by have := Dr.p6; omega, fun F H6 nF s56 ec => ?_⟩
  refine ⟨sz (by simp), fun tt ntt => ?_⟩
  have s67 : Sub H6 (upd H6 tt (.tup [.ref r, .ref F])) := Sub.new ntt
  refine gPair upd_same ?_
  have er7 := (s56.trans s67).f er
  have ec7 := s67.costs ec
  have s47 := (s45.trans s56).trans s67
  generalize upd H6 tt (.tup [.ref r, .ref F]) = H7 at s47 er7 ec7 ⊢
  clear ntt s67 ec nF s56 er nr s45
  -- assignment, forest, sizes
  refine ⟨_, rfl, rd_Forest (s47.f fpH) tp fun f H8 nsp pm1 so1 nf1 s78 ff => ?_⟩
  have hy1 := srt_is pm1 so1
  subst hy1
  have ff : ForestAt K H8 f (nf lp) := ff
  have s48 := s47.trans s78
  refine ⟨_, rfl, rd_Assignment ff (s48 _ _ eaH) Dr.x1 (by have := Dr.x8; omega) (fun x hx => by rw [nf_keys, (srt_perm _).mem_iff]; exact mem_places.mp (Dr.xp x hx)) fun a1 H9 na1 s89 as => ?_⟩
  have s49 := s48.trans s89
  refine ⟨_, rfl, rd_Forest (s49.f fgH) tg fun g H10 nsg pm2 so2 ng1 s910 fg => ?_⟩
  have hy2 := srt_is pm2 so2
  subst hy2
  have fg : ForestAt K H10 g (nf lg) := fg
  have s410 := s49.trans s910
  refine ⟨_, rfl, _, rfl, g0, ga_, lg, gs, rfl, s410.f fgH, tg, SqL.of (s410 _ _ ebH), by have := Dr.x8; have := Dr.len; omega, Dr.gp, fun s H11 ns1 s1011 es => ?_⟩
  refine ⟨_, _, _, rfl, ?_⟩
  have s411 := s410.trans s1011
  have s911 := s910.trans s1011
  have s811 := s89.trans s911
  have s711 := s78.trans s811
  have er11 := s711.f er7
  have ec11 := s711.costs ec7
  have ff11 := s811.forest ff
  have as11 := s911.asg as
  have fg11 := s1011.forest fg
  clear s48 s49 s410 s47 s78 s89 s910 s1011 s911 s811 s711 ff as fg er7 ec7 nf1 na1 ng1 ns1 pm1 so1 pm2 so2
  -- pins
  refine ⟨_, rfl, q0, rfl, ⟨_, SqL.of (s411.lts ltH).at_⟩, ?_⟩
  refine k_lc (walkL (K := K) (a := q0) (data := ps) (f := fun e : Addr × Told => V.ref e.1)) (fun H' s => SqL.of (s _ _ (s411.lts ltH).at_)) (fun _ => true) (fun j ys H' => ∃ qs : Pins, ys = qs.map (fun e => V.ref e.1) ∧ qs.map (·.2) = (ps.map (·.2)).take j ∧ ∀ e ∈ qs, PinAt K H' e.1 e.2) (fun j ys Ha Hb sn ⟨qs, h1, h2, h3⟩ => ⟨qs, h1, h2, fun e he => subN_pin sn (h3 e he)⟩) ⟨[], rfl, rfl, fun e he => by simp at he⟩ (by have := Dr.p6; omega) (fun _ _ _ _ => evB_yes) (fun j ys H' hj _ s' ⟨qs, h1, h2, h3⟩ Q' q' => ?_) (fun _ _ _ _ z => nomatch z) (fun D ys H12 nD s1112 eD ⟨qs, h1, h2, h3⟩ => ?_)
  · have ej : ps[j]? = some ps[j] := List.getElem?_eq_getElem hj
    have gd : ps.getD j default = ps[j] := by rw [List.getD_eq_getElem?_getD, ej]; rfl
    show tCall _ _ _ _ ((wipe _ [20]).set 20 (some (V.ref (ps.getD j default).1))) H' Q'
    rw [gd]
    have hm : ps[j] ∈ ps := List.getElem_mem hj
    refine ⟨_, rfl, ps[j].1, ps[j].2, rfl, (((s411.trans s').lts ltH).each _ hm).1, fun q H'' nq sq pin => ?_⟩
    refine q' _ _ sq ⟨qs ++ [(q, ps[j].2)], by rw [List.map_append, ← h1]; rfl, ?_, fun e he => ?_⟩
    · rw [List.map_append, h2, List.take_add_one, List.getElem?_map, ej]
      rfl
    · rcases List.mem_append.mp he with he | he
      · exact sq.pin (h3 e he)
      · rw [List.mem_singleton.mp he]
        exact pin
  subst h1
  rw [← List.length_map (f := fun e : Addr × Told => e.2), List.take_length] at h2
  have er12 := s1112.f er11
  have ec12 := s1112.costs ec11
  have ff12 := s1112.forest ff11
  have as12 := s1112.asg as11
  have fg12 := s1112.forest fg11
  have es12 := s1112.f es
  have s412 := s411.trans s1112
  have hD12 := hD4.sub s412
  obtain ⟨D1, D2⟩ := (hD4.sub s411).new nD
  have hqs : qs.length = ps.length := by have := congrArg List.length h2; rwa [List.length_map, List.length_map] at this
  have p6 : qs.length ≤ 6 := by rw [hqs]; exact Dr.p6
  have hwho : ∀ e ∈ qs, e.2.who < xs.length := fun e he => by
    have h1 : e.2 ∈ ps.map (·.2) := by rw [← h2]; exact List.mem_map.mpr ⟨e, he, rfl⟩
    obtain ⟨e', he', h3⟩ := List.mem_map.mp h1
    rw [← h3]
    exact Dr.who e' he'
  rw [← h2] at ec12
  clear s1112 er11 ec11 ff11 as11 fg11 es s411 nD ltH h2 hqs ebH
  -- the place
  refine rd_place rfl rfl rfl rfl hD12 (by omega) (s412.f fpH).rd (s412.f fgH).rd tp tg (hD12.mForest ff12) (hD12.mForest fg12) fun fv gg H13 s1213 hD13 hfv fg13 => ?_
  have R : Ready K (msk d l H13) F r a1 s D f gg fv lp lg (sizesL lg gs) xs gs qs := by
    refine ⟨⟨s1213.m.asg (hD12.mAsg Dr.x1 as12), s1213.m.forest (hD12.mForest ff12), fg13, tp, tg, Dr.xp, Dr.x1, by have := Dr.x8; omega, s1213.m.f (hD12.mF es12), ?_, fun m hm => ?_, fun q hq => ?_, by omega, hwho, fun e he => s1213.m.pin (hD12.mPin (h3 e he))⟩, s1213.m _ _ (by rw [msk_at D1 D2]; exact eD), s1213.m.costs (hD12.mCosts (by rw [rowsOf_len]; exact Dr.x1) ec12), s1213.m.f (hD12.mF er12), p6, hfv⟩
    · unfold sizesL fnL
      rw [List.length_map, List.length_reverse, srt_len, List.length_map]
    · exact ⟨_, fnL_get (List.mem_reverse.mpr ((srt_perm _).mem_iff.mpr hm)), Int.natCast_nonneg _⟩
    · have hl := Dr.len
      have := resid_goals tg (xs := gs) Dr.gp (z := fun m => (aGet (sizesL lg gs) m).getD 0) (fun m hm => by
        have e : aGet (sizesL lg gs) m = some _ := fnL_get (List.mem_reverse.mpr ((srt_perm _).mem_iff.mpr hm))
        rw [e]; rfl) hq
      rw [hl] at this
      exact this
  have eaM : msk d l H13 xa = some (.lst (xs.map V.str)) := (((s412.e (d := d) (l := l)).trans s1213).m _ _ Dr.ea)
  have x1 := Dr.x1
  have x8 := Dr.x8
  clear s412 s1213 hD12 er12 ec12 ff12 as12 fg12 es12 eD D1 D2 hfv fg13 p6 hwho h3 fpH fgH eaH Dr et s34 hD4 tp
  -- the rest of the turn
  exact rd_lawA T hD13 (by omega) x1 x8 eaM R fun u14 u15 u16 u17 u18 u19 H' hD' => ⟨_, _, _, _, _, _, _, _, _, _, _, _, _, _, _, _, _, _, rfl, hD'.le (by omega)⟩
/-- the law keeps its promise -/
theorem ok_law {f : Addr} {fd : FuncData} (F : FunD K "law" "law" (defArgs slaw) (defBody slaw) (defScope slaw) [] [] f fd) (T : Txt K mg) (S : TxtS P K mg) : FnOk P w K mg base CX0 21 f fd ["_law_script"] (sp_law K) := by
  refine F.ok sc_law (fun vs H Q E h => ?_) (fun cdv A outer s H vs Q E hr h => ?_)
  · obtain ⟨a, ns, rfl, _⟩ := h
    rfl
  · obtain ⟨t, h1, h2⟩ := body_law T S _ cdv A outer s H vs Q E hr h
    exact ⟨t, h1.nox, h2⟩
end
end K31
set_option Elab.async false
set_option linter.all false
set_option maxRecDepth 100000
set_option maxHeartbeats 4000000
/-! The __init__s that say super(), from the head's looks. -/
namespace K31
open PySem PySem.Spec PyProof.Rows L2 He NdefX ClX
theorem supB_ok {P : Program} {K : PySem.W.Frag} {mg : Str → Option Value} {d : DX} {x : Str} {g : Addr} (had : d.ad K = ma K (ga K x) "__init__") (hnm : d.nm = "__init__") (hcl : d.cl = (["__class__"] : List Str)) (e : seen K (d.ad K) = d.say) (c : supB P.main.file K x g d.ql = true) (hs : mg "super" = none) (ht : (P.main.scope.names.lookup ("super" : Str)).isSome = false) :
    ∃ fd, SupD P K mg d.ql (defArgs d.st) (defBody d.st) (defScope d.st) (ga K x) (ma K (ga K x) "__init__") g fd := by
  obtain ⟨dV, kV, doc, pm, an, cdv, ct, cls, h, hc⟩ := seen_ok e
  obtain ⟨c0, c⟩ := ba c
  rw [← had, h] at c0
  obtain ⟨a1, c0⟩ := ba c0
  obtain ⟨a2, c0⟩ := ba c0
  obtain ⟨a3, c0⟩ := ba c0
  obtain ⟨a4, c0⟩ := ba c0
  obtain ⟨a5, a6⟩ := ba c0
  obtain ⟨c1, c⟩ := ba c
  obtain ⟨c2, c⟩ := ba c
  obtain ⟨c3, c⟩ := ba c
  obtain ⟨c4, c⟩ := ba c
  obtain ⟨c5, c6⟩ := ba c
  obtain ⟨oc, od, osl, lk⟩ := funAt_ok h
  rw [had, hnm] at lk
  obtain rfl : dV = .none := isNoneV_ok a2
  obtain rfl : kV = .none := isNoneV_ok a3
  obtain rfl : an = none := Option.isNone_iff_eq_none.mp a4
  rw [hcl] at hc
  obtain ⟨cc, rfl⟩ : ∃ cc : Addr, cls = [(("__class__" : Str), cc)] := by
    match cls, hc with
    | [(y, cc)], hc =>
      have h1 : y = ("__class__" : Str) := (List.cons.inj hc).1
      exact ⟨cc, by rw [h1]⟩
    | _ :: _ :: _, hc => simp at hc
    | [], hc => simp at hc
  dsimp only at a5 a6
  cases cdv with
  | ref cda =>
    have e1 : ∃ (ccl : Value) (cdd : Option Addr) (vs : Array Value) (ccs : Array (Option Value)) (file : Str) (tf : Tok), K.lookup cda = some ⟨ccl, cdd, .fields vs, ccs⟩ ∧ vs[2]? = some (.str file tf) ∧ ((P.main.file : Str) == file) = true := by
      dsimp only at a5
      split at a5
      · rename_i ccl cdd vs ccs elk
        split at a5
        · rename_i z tf ez
          exact ⟨ccl, cdd, vs, ccs, z, tf, elk, ez, a5⟩
        · cases a5
      · cases a5
    have e2 : ∃ (cl : Value) (cld : Option Addr) (csl : Array (Option Value)), K.lookup cc = some ⟨cl, cld, .cell (some (.ref (ga K x))), csl⟩ := by
      split at a6
      · rename_i cl cld D csl elk
        rw [of_decide_eq_true a6] at elk
        exact ⟨cl, cld, csl, elk⟩
      · cases a6
    exact ⟨_, ⟨oc, od, doc, pm, ct, osl, cc, cda, rfl, lk, a1, e1, e2⟩, Option.isSome_iff_exists.mp c1, of_decide_eq_true c2, hs, ht, eqO_ok c3, eqO_ok c4, of_decide_eq_true c5, c6⟩
  | _ => cases a5
section
variable {K : PySem.W.Frag} {h : Heap} {mg : Str → Option Value}
theorem txtS_of (c : lk.obs K = lk.val) (X : K.In h) (G : h.Ns mainGlobals mg) : TxtS PySem.Challenge.pw_flagtrees_k31_whole_crowds K mg where
    s_Must := supB_ok (d := ⟨fun K => ma K (ga K "Must") "__init__", "__init__", "Must.__init__", inClass (top 34) 0, [], ["__class__"]⟩) (x := "Must") (g := ma K (ga K "Pin") "__init__") rfl rfl rfl (Looks.seen_at c 59 rfl) (Looks.sup_ c 0 (s := ("Must", "Pin", "Must.__init__"))) (free_ok X G (Looks.fact c 67 (f := .fa (.free "super")))) (by decide +kernel)
    s_Never := supB_ok (d := ⟨fun K => ma K (ga K "Never") "__init__", "__init__", "Never.__init__", inClass (top 35) 0, [], ["__class__"]⟩) (x := "Never") (g := ma K (ga K "Pin") "__init__") rfl rfl rfl (Looks.seen_at c 60 rfl) (Looks.sup_ c 1 (s := ("Never", "Pin", "Never.__init__"))) (free_ok X G (Looks.fact c 67 (f := .fa (.free "super")))) (by decide +kernel)
theorem law_of (c : lk.obs K = lk.val) (X : K.In h) (G : h.Ns mainGlobals mg) : mg "law" = some (.ref (ga K "law")) ∧ ∃ fd, FunD K "law" "law" (defArgs slaw) (defBody slaw) (defScope slaw) [] [] (ga K "law") fd :=
  ⟨glo_ok X G (Looks.fact c 135 (f := .fa (.glo "law"))), Looks.def_ c 58 (d := ⟨fun K => ga K "law", "law", "law", slaw, [], []⟩)⟩
end
end K31
set_option Elab.async false
set_option linter.all false
set_option maxRecDepth 100000
set_option maxHeartbeats 4000000
open PySem PySem.W PySem.Calls PyProof.Rows
theorem PySem.Challenge.cw_flagtrees_k31_whole_crowds_holds : PySem.Challenge.rw_flagtrees_k31_whole_crowds.Holds := by
  w_on; o_law
  refine HandSHeadRun.head_any (r := K31.R) (q := K31.qv) (H := K31.hookK K31.lk) (ob := K31.obK K31.lk) (M := 20000) (loose := K31.names) (d := HandSHeadRun.topDef K31.R.prog 72) (kwd := []) (K31.obK_eq K31.lk)
    (by kernel_rfl) (fun s => by kernel_rfl) K31.run (by kernel_rfl) (by kernel_rfl) (by kernel_rfl) (by rfl) (by first | assumption | decide +kernel) (by decide +kernel) ⟨rfl, rfl, rfl, rfl, rfl, by decide +kernel⟩ ?hw ?hc
  case hw => w_witness2
  case hc =>
    refine L2.walk_ofE (l := PySem.Challenge.rw_flagtrees_k31_whole_crowds) (n := 63) (k := 21) (x := "_law_script") (CX := L2.CX0) rfl (by decide) (by kernel_rfl) ⟨rfl, by decide, by decide⟩ ?F (fun _ _ _ _ z => z)
    intro w mg fa h Y G hmg0
    obtain ⟨K, KX, c⟩ := Y
    have hmg : mg ("law" : PySem.Str) = some (.ref fa) := by
      have e : (HandSHeadRun.topDef K31.R.prog 72).name = ("law" : PySem.Str) := by kernel_rfl
      rw [← e]
      exact hmg0
    obtain ⟨hl, fd, F⟩ := K31.law_of c KX G
    have efa : fa = He.ga K "law" := by
      have := hmg.symm.trans hl
      exact Value.ref.inj (Option.some.inj this)
    subst efa
    have b := L2.FunD.bindsA (ps := ["_law_script"]) F fun _ _ _ _ _ _ us hl => match us, hl with | [_], _ => rfl
    exact ⟨K, fd, K31.sp_law K, KX, fun s v => b s [v] rfl, fun H a ns hl _ hS => ⟨a, ns, rfl, hS, hl, fun _ => rfl⟩, fun base _ _ => K31.ok_law F (K31.txt_of c KX G) (K31.txtS_of c KX G)⟩
