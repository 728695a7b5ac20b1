import PyProof.Rows.All
import Wide.All
import OpenK.AllK
import Wide.FinOn
import KE.KStateDown
import KE.KNestM
import Lean
import HandS.ForExc
import HandS.ForMost
import HandS.ExcInit
import HandS.ExcField
import HandS.Defaults
import HandS.IsInst
import HandS.Codes
import HandS.Lambda
import HandS.EndTab
import HandS.HeadWalk
import HandS.Head0
import HandS.Head1
import HandS.Head2
import HandS.HeadEnd
import HandS.HeadHook4
import HandS.Style
import HandS.NoneIn
import HandS.DictComp
import HandS.Deep
import HandS.Walk
import HandS.Evl
import HandS.TryMany
import HandS.CallSlots
import HandS.SortKw
import HandS.ExcValue
import KE.SortCalls
import HandS.Zip
import KE.GoesMore
import HandS.Star
import HandS.SortInts
import HandS.SortRule
import KE.SortData
import HandS.Small
import HandS.ListItems
import HandS.MakeKwOnly
import PyProof.ReprRoads
import PyProof.ReprLen
import PySem.Challenge.RW_takeandsplit_k11_whole_ways_and_back
set_option Elab.async false
set_option linter.all false
set_option maxRecDepth 100000
set_option maxHeartbeats 4000000
namespace Tk
open PySem PySem.Spec PyProof.Rows L2
def topS (i : Nat) : Stmt := PySem.Challenge.pw_takeandsplit_k11_whole_ways_and_back.main.body.getD i (.Pass ⟨0, 0, 0, 0⟩)
abbrev st_is_list : Stmt := topS 10
abbrev st_is_integer : Stmt := topS 11
abbrev st_is_number : Stmt := topS 12
abbrev st_is_heap : Stmt := topS 13
abbrev st_shared : Stmt := topS 14
abbrev st_multiple : Stmt := topS 15
abbrev st_is_rule : Stmt := topS 17
abbrev st_go_together : Stmt := topS 18
abbrev st_rule_line : Stmt := topS 19
abbrev st_checked_rules : Stmt := topS 20
abbrev st_checked_book : Stmt := topS 22
abbrev st_checked_heap : Stmt := topS 24
abbrev st_joined : Stmt := topS 25
abbrev st_taken_most : Stmt := topS 26
abbrev st_spans_in : Stmt := topS 27
abbrev st_option_in : Stmt := topS 28
abbrev st_checked_option : Stmt := topS 29
abbrev st_ways_to : Stmt := topS 30
abbrev st_many_to : Stmt := topS 31
abbrev st_count_in : Stmt := topS 32
abbrev st_checked_most : Stmt := topS 34
abbrev st_heaps_from : Stmt := topS 35
abbrev st_ends : Stmt := topS 36
abbrev st_w_a_line : Stmt := topS 38
abbrev st_w_a_rule : Stmt := topS 39
abbrev st_w_a_rules : Stmt := topS 40
abbrev st_w_a_book : Stmt := topS 41
abbrev st_w_a_made : Stmt := topS 42
abbrev st_w_a_taken : Stmt := topS 43
abbrev st_w_a_options : Stmt := topS 44
abbrev st_w_a_spoiled : Stmt := topS 45
abbrev st_w_start : Stmt := topS 46
abbrev st_w_draw : Stmt := topS 47
abbrev st_w_pick : Stmt := topS 48
abbrev st_w_mixed : Stmt := topS 49
abbrev st_w_same : Stmt := topS 50
abbrev st_w_loose : Stmt := topS 51
abbrev st_w_b_word : Stmt := topS 52
abbrev st_w_b_ways : Stmt := topS 53
abbrev st_w_b_as_option : Stmt := topS 54
abbrev st_w_b_wide : Stmt := topS 55
abbrev st_w_met : Stmt := topS 56
abbrev st_w_ways_right : Stmt := topS 57
abbrev st_w_back_right : Stmt := topS 58
abbrev st_w_refused_right : Stmt := topS 59
abbrev st_law : Stmt := topS 60
abbrev st_BadBook_init : Stmt := inClass (topS 2) 0
abbrev st_BadHeap_init : Stmt := inClass (topS 3) 0
abbrev st_BadNumber_init : Stmt := inClass (topS 4) 0
abbrev st_BadOption_init : Stmt := inClass (topS 5) 0
abbrev st_BadRules_init : Stmt := inClass (topS 6) 0
abbrev st_Book_init : Stmt := inClass (topS 21) 0
abbrev st_Book_rules : Stmt := inClass (topS 21) 1
abbrev st_Book_eq : Stmt := inClass (topS 21) 2
/-- a def of the top: it stands at the address that the name has -/
structure DefAt (K : PySem.W.Frag) (mg : Str → Option Value) (x : Str) (st : Stmt) (ps : List Str) (fd : FuncData) : Prop where
  F : FunD K x x (defArgs st) (defBody st) (defScope st) [] [] (He.ga K x) fd
  g : mg x = some (.ref (He.ga K x))
  b : Binds K fd ps []
/-- an own error with one field -/
structure ExcAt (K : PySem.W.Frag) (mg : Str → Option Value) (x q fld : Str) (st : Stmt) : Prop where
  g : mg x = some (.ref (He.ga K x))
  oex : OexC K (He.ga K x)
  xf : XfC K (He.ga K x)
  noF : PySem.W.findIn K (.ref (He.ga K x)) fld = some none
  ini : PySem.W.findIn K (.ref (He.ga K x)) "__init__" = some (some (.ref (He.ma K (He.ga K x) "__init__")))
  tini : PySem.W.typeIn K (.ref (He.ma K (He.ga K x) "__init__")) = some (.type "function")
  F : ∃ fd, FunD K "__init__" q (defArgs st) (defBody st) (defScope st) [] [] (He.ma K (He.ga K x) "__init__") fd ∧ Binds K fd ["self", fld] []
/-- what isinstance tells of the class Book -/
structure BookIs (K : PySem.W.Frag) (C : Addr) : Prop where
  ins : C8.InsC K C
  no : ∀ t : String, t ∈ ["NoneType", "int", "str", "list", "dict"] → PySem.W.kitOne K (.type t) (.ref C) = some false
structure Txt (K : PySem.W.Frag) (mg : Str → Option Value) : Prop where
  f_len : mg "len" = none
  f_isinstance : mg "isinstance" = none
  f_list : mg "list" = none
  f_tuple : mg "tuple" = none
  f_int : mg "int" = none
  f_bool : mg "bool" = none
  f_str : mg "str" = none
  f_dict : mg "dict" = none
  f_range : mg "range" = none
  f_max : mg "max" = none
  f_min : mg "min" = none
  f_sorted : mg "sorted" = none
  f_sum : mg "sum" = none
  f_any : mg "any" = none
  f_all : mg "all" = none
  f_enumerate : mg "enumerate" = none
  f_zip : mg "zip" = none
  f_repr : mg "repr" = none
  f_ValueError : mg "ValueError" = none
  great : ∃ t, mg "GREATEST" = some (.int (10 ^ 18) t)
  d_is_list : ∃ fd, DefAt K mg "is_list" st_is_list ["thing"] fd
  d_is_integer : ∃ fd, DefAt K mg "is_integer" st_is_integer ["thing"] fd
  d_is_number : ∃ fd, DefAt K mg "is_number" st_is_number ["thing"] fd
  d_is_heap : ∃ fd, DefAt K mg "is_heap" st_is_heap ["thing"] fd
  d_shared : ∃ fd, DefAt K mg "shared" st_shared ["one", "other"] fd
  d_multiple : ∃ fd, DefAt K mg "multiple" st_multiple ["one", "other"] fd
  d_is_rule : ∃ fd, DefAt K mg "is_rule" st_is_rule ["thing"] fd
  d_go_together : ∃ fd, DefAt K mg "go_together" st_go_together ["rule", "other"] fd
  d_rule_line : ∃ fd, DefAt K mg "rule_line" st_rule_line ["rule"] fd
  d_checked_rules : ∃ fd, DefAt K mg "checked_rules" st_checked_rules ["rules"] fd
  d_checked_book : ∃ fd, DefAt K mg "checked_book" st_checked_book ["book"] fd
  d_checked_heap : ∃ fd, DefAt K mg "checked_heap" st_checked_heap ["heap"] fd
  d_joined : ∃ fd, DefAt K mg "joined" st_joined ["spans"] fd
  d_taken_most : ∃ fd, DefAt K mg "taken_most" st_taken_most ["rule", "heap"] fd
  d_spans_in : ∃ fd, DefAt K mg "spans_in" st_spans_in ["book", "heap"] fd
  d_option_in : ∃ fd, DefAt K mg "option_in" st_option_in ["book", "heap", "thing"] fd
  d_checked_option : ∃ fd, DefAt K mg "checked_option" st_checked_option ["book", "heap", "option"] fd
  d_ways_to : ∃ fd, DefAt K mg "ways_to" st_ways_to ["book", "heap", "option"] fd
  d_many_to : ∃ fd, DefAt K mg "many_to" st_many_to ["spans", "sums", "most"] fd
  d_count_in : ∃ fd, DefAt K mg "count_in" st_count_in ["book", "heap"] fd
  d_checked_most : ∃ fd, DefAt K mg "checked_most" st_checked_most ["most"] fd
  d_heaps_from : ∃ fd, DefAt K mg "heaps_from" st_heaps_from ["book", "option", "most"] fd
  d_ends : ∃ fd, DefAt K mg "ends" st_ends ["book", "most"] fd
  d_w_a_line : ∃ fd, DefAt K mg "_law_a_line" st_w_a_line ["_law_rule"] fd
  d_w_a_rule : ∃ fd, DefAt K mg "_law_a_rule" st_w_a_rule ["_law_stream", "_law_lefts", "_law_far", "_law_turns"] fd
  d_w_a_rules : ∃ fd, DefAt K mg "_law_a_rules" st_w_a_rules ["_law_stream", "_law_way", "_law_many", "_law_far", "_law_turns"] fd
  d_w_a_book : ∃ fd, DefAt K mg "_law_a_book" st_w_a_book ["_law_stream"] fd
  d_w_a_made : ∃ fd, DefAt K mg "_law_a_made" st_w_a_made ["_law_stream", "_law_raw"] fd
  d_w_a_taken : ∃ fd, DefAt K mg "_law_a_taken" st_w_a_taken ["_law_raw", "_law_heap"] fd
  d_w_a_options : ∃ fd, DefAt K mg "_law_a_options" st_w_a_options ["_law_raw", "_law_heap"] fd
  d_w_a_spoiled : ∃ fd, DefAt K mg "_law_a_spoiled" st_w_a_spoiled ["_law_thing"] fd
  d_w_start : ∃ fd, DefAt K mg "_law_start" st_w_start ["_law_script"] fd
  d_w_draw : ∃ fd, DefAt K mg "_law_draw" st_w_draw ["_law_stream", "_law_many"] fd
  d_w_pick : ∃ fd, DefAt K mg "_law_pick" st_w_pick ["_law_stream", "_law_some"] fd
  d_w_mixed : ∃ fd, DefAt K mg "_law_mixed" st_w_mixed ["_law_stream", "_law_some"] fd
  d_w_same : ∃ fd, DefAt K mg "_law_same" st_w_same ["_law_found", "_law_due"] fd
  d_w_loose : ∃ fd, DefAt K mg "_law_loose" st_w_loose ["_law_stream", "_law_thing"] fd
  d_w_b_word : ∃ fd, DefAt K mg "_law_b_word" st_w_b_word ["_law_option"] fd
  d_w_b_ways : ∃ fd, DefAt K mg "_law_b_ways" st_w_b_ways ["_law_raw", "_law_heap", "_law_option"] fd
  d_w_b_as_option : ∃ fd, DefAt K mg "_law_b_as_option" st_w_b_as_option ["_law_raw", "_law_heap", "_law_thing"] fd
  d_w_b_wide : ∃ fd, DefAt K mg "_law_b_wide" st_w_b_wide ["_law_stream"] fd
  d_w_met : ∃ fd, DefAt K mg "_law_met" st_w_met ["_law_ask"] fd
  d_w_ways_right : ∃ fd, DefAt K mg "_law_ways_right" st_w_ways_right ["_law_stream", "_law_raw", "_law_made", "_law_heap", "_law_some"] fd
  d_w_back_right : ∃ fd, DefAt K mg "_law_back_right" st_w_back_right ["_law_stream", "_law_raw", "_law_made", "_law_most"] fd
  d_w_refused_right : ∃ fd, DefAt K mg "_law_refused_right" st_w_refused_right ["_law_made"] fd
  d_law : ∃ fd, DefAt K mg "law" st_law ["_law_script"] fd
  e_BadBook : ExcAt K mg "BadBook" "BadBook.__init__" "thing" st_BadBook_init
  e_BadHeap : ExcAt K mg "BadHeap" "BadHeap.__init__" "thing" st_BadHeap_init
  e_BadNumber : ExcAt K mg "BadNumber" "BadNumber.__init__" "thing" st_BadNumber_init
  e_BadOption : ExcAt K mg "BadOption" "BadOption.__init__" "thing" st_BadOption_init
  e_BadRules : ExcAt K mg "BadRules" "BadRules.__init__" "index" st_BadRules_init
  bookG : mg "Book" = some (.ref (He.ga K "Book"))
  bookC : Cls K (He.ga K "Book")
  bookI : BookIs K (He.ga K "Book")
  bookM : Mk K (He.ga K "Book") (He.ma K (He.ga K "Book") "__init__")
  bookF : ∃ fd, FunD K "__init__" "Book.__init__" (defArgs st_Book_init) (defBody st_Book_init) (defScope st_Book_init) [] [] (He.ma K (He.ga K "Book") "__init__") fd ∧ Binds K fd ["self", "rules"] []
  bookN1 : NoAttr K (He.ga K "Book") "own_rules"
  bookN2 : NoAttr K (He.ga K "Book") "own_most"
  bookN3 : NoAttr K (He.ga K "Book") "own_turn"
  bookN4 : NoAttr K (He.ga K "Book") "is_growing"
  tab2 : (He.cT K ("_law_ways_right", none)).2 ≠ (He.cT K ("_law_refused_right", none)).2
  x_BadBook_BadBook : PySem.W.exmOne K (.ref (He.ga K "BadBook")) (.ref (He.ga K "BadBook")) = some true
  x_BadBook_BadHeap : PySem.W.exmOne K (.ref (He.ga K "BadBook")) (.ref (He.ga K "BadHeap")) = some false
  x_BadBook_BadOption : PySem.W.exmOne K (.ref (He.ga K "BadBook")) (.ref (He.ga K "BadOption")) = some false
  x_BadBook_BadNumber : PySem.W.exmOne K (.ref (He.ga K "BadBook")) (.ref (He.ga K "BadNumber")) = some false
  x_BadHeap_BadBook : PySem.W.exmOne K (.ref (He.ga K "BadHeap")) (.ref (He.ga K "BadBook")) = some false
  x_BadHeap_BadHeap : PySem.W.exmOne K (.ref (He.ga K "BadHeap")) (.ref (He.ga K "BadHeap")) = some true
  x_BadHeap_BadOption : PySem.W.exmOne K (.ref (He.ga K "BadHeap")) (.ref (He.ga K "BadOption")) = some false
  x_BadHeap_BadNumber : PySem.W.exmOne K (.ref (He.ga K "BadHeap")) (.ref (He.ga K "BadNumber")) = some false
  x_BadOption_BadBook : PySem.W.exmOne K (.ref (He.ga K "BadOption")) (.ref (He.ga K "BadBook")) = some false
  x_BadOption_BadHeap : PySem.W.exmOne K (.ref (He.ga K "BadOption")) (.ref (He.ga K "BadHeap")) = some false
  x_BadOption_BadOption : PySem.W.exmOne K (.ref (He.ga K "BadOption")) (.ref (He.ga K "BadOption")) = some true
  x_BadOption_BadNumber : PySem.W.exmOne K (.ref (He.ga K "BadOption")) (.ref (He.ga K "BadNumber")) = some false
  x_BadNumber_BadBook : PySem.W.exmOne K (.ref (He.ga K "BadNumber")) (.ref (He.ga K "BadBook")) = some false
  x_BadNumber_BadHeap : PySem.W.exmOne K (.ref (He.ga K "BadNumber")) (.ref (He.ga K "BadHeap")) = some false
  x_BadNumber_BadOption : PySem.W.exmOne K (.ref (He.ga K "BadNumber")) (.ref (He.ga K "BadOption")) = some false
  x_BadNumber_BadNumber : PySem.W.exmOne K (.ref (He.ga K "BadNumber")) (.ref (He.ga K "BadNumber")) = some true
/-! ### the facts, by Bools -/
def oexB (K : PySem.W.Frag) (C : Addr) : Bool := match K.lookup C with
  | some ⟨.type t, _, .cls cd, sl⟩ => decide (t = "type") && ((match cd.mro, sl.toList with
    | .ref C' :: bm, [_, _, _, _, some (.builtin n), _] => decide (C' = C) && (decide (n = "ValueError.__new__") && PySem.HandSPX.refsVE bm)
    | _, _ => false) && (!cd.hasDel && cd.hasDict))
  | _ => false
theorem oexB_ok {K : PySem.W.Frag} {C : Addr} (h : oexB K C = true) : ∃ nm q N bs bm sn sub ab col dd k0 k1 k2 k3 k5, K.lookup C = some (excClassObj nm q C N bs bm true sn sub ab col dd k0 k1 k2 k3 k5 "ValueError.__new__") ∧ PySem.HandSPX.refsVE bm = true := by
  unfold oexB at h
  split at h
  · rename_i t dd cd sl hk
    obtain ⟨nm, bases, mro, ns, qn, hd, sn, sb, ab, col, del⟩ := cd
    obtain ⟨h1, h2⟩ := He.ba h
    obtain ⟨h3, h4⟩ := He.ba h2
    obtain ⟨h5, h6⟩ := He.ba h4
    dsimp only at h3 h5 h6
    split at h3
    · rename_i z2 z3 C' bm k0 k1 k2 k3 n k5 es
      obtain ⟨h7, h8⟩ := He.ba h3
      obtain ⟨h9, h10⟩ := He.ba h8
      have e1 : C' = C := of_decide_eq_true h7
      have e2 : n = "ValueError.__new__" := of_decide_eq_true h9
      have e3 : del = false := by
        cases del with
        | false => rfl
        | true => cases h5
      have e4 : t = "type" := of_decide_eq_true h1
      have e5 : sl = #[k0, k1, k2, k3, some (.builtin n), k5] := Array.toList_inj.mp (es.trans rfl)
      subst e1 e2 e3 e4 e5 h6
      exact ⟨nm, qn, ns, bases, bm, sn, sb, ab, col, dd, k0, k1, k2, k3, k5, hk, h10⟩
    · cases h3
  · cases h
def eV (a : Option (Option Value)) (b : Option (Option Value)) : Bool := decide (a = b)
def excB (K : PySem.W.Frag) (x fld : Str) : Bool :=
  oexB K (He.ga K x) && (eV (PySem.W.findIn K (.ref (He.ga K x)) "__setattr__") (some (some (.builtin "object.__setattr__"))) && (decide (PySem.W.subIn K (.ref (He.ga K x)) (.type "BaseException") = some true) &&
    (decide (PySem.W.typeIn K (.ref (He.ga K x)) = some (.type "type")) && (PySem.W.keepIn K (.ref (He.ga K x)) && (xfB K (He.ga K x) && (eV (PySem.W.findIn K (.ref (He.ga K x)) fld) (some none) &&
    (eV (PySem.W.findIn K (.ref (He.ga K x)) "__init__") (some (some (.ref (He.ma K (He.ga K x) "__init__")))) && decide (PySem.W.typeIn K (.ref (He.ma K (He.ga K x) "__init__")) = some (.type "function")))))))))
def insB (K : PySem.W.Frag) (C : Addr) : Bool :=
  eV (PySem.W.findIn K (.ref C) "__class__") (some (some (.builtin "object.__class__"))) && (eV (PySem.W.specialIn K (.builtin "object.__class__") "__get__") (some (some (.builtin "getset_descriptor.__get__"))) &&
    (decide (PySem.W.takesIn K (.builtin "object.__class__") = some true) && (decide (PySem.W.mroIn K C (.type "object") = some true) && (decide (PySem.W.kitOne K (.ref C) (.ref C) = some true) &&
    (["NoneType", "int", "str", "list", "dict"].all fun t => decide (PySem.W.kitOne K (.type t) (.ref C) = some false))))))
def exAll : List (Str × Str) := [("BadBook", "thing"), ("BadHeap", "thing"), ("BadNumber", "thing"), ("BadOption", "thing"), ("BadRules", "index")]
def exB (K : PySem.W.Frag) : Bool := (exAll.all fun p => excB K p.1 p.2) && (insB K (He.ga K "Book") && !decide ((He.cT K ("_law_ways_right", none)).2 = (He.cT K ("_law_refused_right", none)).2))
theorem exc_mk {K : PySem.W.Frag} {h : Heap} {mg : Str → Option Value} {x q fld : Str} {st : Stmt} (g : mg x = some (.ref (He.ga K x))) (b : excB K x fld = true)
    (F : ∃ fd, FunD K "__init__" q (defArgs st) (defBody st) (defScope st) [] [] (He.ma K (He.ga K x) "__init__") fd ∧ Binds K fd ["self", fld] []) : ExcAt K mg x q fld st := by
  obtain ⟨b1, b⟩ := He.ba b
  obtain ⟨b2, b⟩ := He.ba b
  obtain ⟨b3, b⟩ := He.ba b
  obtain ⟨b4, b⟩ := He.ba b
  obtain ⟨b5, b⟩ := He.ba b
  obtain ⟨b6, b⟩ := He.ba b
  obtain ⟨b7, b⟩ := He.ba b
  obtain ⟨b8, b9⟩ := He.ba b
  exact ⟨g, ⟨oexB_ok b1, of_decide_eq_true b2, of_decide_eq_true b3, of_decide_eq_true b4, b5⟩, xfB_ok b6, of_decide_eq_true b7, of_decide_eq_true b8, of_decide_eq_true b9, F⟩
theorem ins_mk {K : PySem.W.Frag} {C : Addr} (cl : Cls K C) (b : insB K C = true) : BookIs K C := by
  obtain ⟨b1, b⟩ := He.ba b
  obtain ⟨b2, b⟩ := He.ba b
  obtain ⟨b3, b⟩ := He.ba b
  obtain ⟨b4, b⟩ := He.ba b
  obtain ⟨b5, b6⟩ := He.ba b
  exact ⟨⟨cl, of_decide_eq_true b1, of_decide_eq_true b2, of_decide_eq_true b3, of_decide_eq_true b4, of_decide_eq_true b5⟩, fun t ht => of_decide_eq_true (List.all_eq_true.mp b6 t ht)⟩
def dd_is_list : He.DefD := ⟨("is_list", none), "is_list", "is_list", defArgs st_is_list, defBody st_is_list, defScope st_is_list, [], []⟩
def dd_is_integer : He.DefD := ⟨("is_integer", none), "is_integer", "is_integer", defArgs st_is_integer, defBody st_is_integer, defScope st_is_integer, [], []⟩
def dd_is_number : He.DefD := ⟨("is_number", none), "is_number", "is_number", defArgs st_is_number, defBody st_is_number, defScope st_is_number, [], []⟩
def dd_is_heap : He.DefD := ⟨("is_heap", none), "is_heap", "is_heap", defArgs st_is_heap, defBody st_is_heap, defScope st_is_heap, [], []⟩
def dd_shared : He.DefD := ⟨("shared", none), "shared", "shared", defArgs st_shared, defBody st_shared, defScope st_shared, [], []⟩
def dd_multiple : He.DefD := ⟨("multiple", none), "multiple", "multiple", defArgs st_multiple, defBody st_multiple, defScope st_multiple, [], []⟩
def dd_is_rule : He.DefD := ⟨("is_rule", none), "is_rule", "is_rule", defArgs st_is_rule, defBody st_is_rule, defScope st_is_rule, [], []⟩
def dd_go_together : He.DefD := ⟨("go_together", none), "go_together", "go_together", defArgs st_go_together, defBody st_go_together, defScope st_go_together, [], []⟩
def dd_rule_line : He.DefD := ⟨("rule_line", none), "rule_line", "rule_line", defArgs st_rule_line, defBody st_rule_line, defScope st_rule_line, [], []⟩
def dd_checked_rules : He.DefD := ⟨("checked_rules", none), "checked_rules", "checked_rules", defArgs st_checked_rules, defBody st_checked_rules, defScope st_checked_rules, [], []⟩
def dd_checked_book : He.DefD := ⟨("checked_book", none), "checked_book", "checked_book", defArgs st_checked_book, defBody st_checked_book, defScope st_checked_book, [], []⟩
def dd_checked_heap : He.DefD := ⟨("checked_heap", none), "checked_heap", "checked_heap", defArgs st_checked_heap, defBody st_checked_heap, defScope st_checked_heap, [], []⟩
def dd_joined : He.DefD := ⟨("joined", none), "joined", "joined", defArgs st_joined, defBody st_joined, defScope st_joined, [], []⟩
def dd_taken_most : He.DefD := ⟨("taken_most", none), "taken_most", "taken_most", defArgs st_taken_most, defBody st_taken_most, defScope st_taken_most, [], []⟩
def dd_spans_in : He.DefD := ⟨("spans_in", none), "spans_in", "spans_in", defArgs st_spans_in, defBody st_spans_in, defScope st_spans_in, [], []⟩
def dd_option_in : He.DefD := ⟨("option_in", none), "option_in", "option_in", defArgs st_option_in, defBody st_option_in, defScope st_option_in, [], []⟩
def dd_checked_option : He.DefD := ⟨("checked_option", none), "checked_option", "checked_option", defArgs st_checked_option, defBody st_checked_option, defScope st_checked_option, [], []⟩
def dd_ways_to : He.DefD := ⟨("ways_to", none), "ways_to", "ways_to", defArgs st_ways_to, defBody st_ways_to, defScope st_ways_to, [], []⟩
def dd_many_to : He.DefD := ⟨("many_to", none), "many_to", "many_to", defArgs st_many_to, defBody st_many_to, defScope st_many_to, [], []⟩
def dd_count_in : He.DefD := ⟨("count_in", none), "count_in", "count_in", defArgs st_count_in, defBody st_count_in, defScope st_count_in, [], []⟩
def dd_checked_most : He.DefD := ⟨("checked_most", none), "checked_most", "checked_most", defArgs st_checked_most, defBody st_checked_most, defScope st_checked_most, [], []⟩
def dd_heaps_from : He.DefD := ⟨("heaps_from", none), "heaps_from", "heaps_from", defArgs st_heaps_from, defBody st_heaps_from, defScope st_heaps_from, [], []⟩
def dd_ends : He.DefD := ⟨("ends", none), "ends", "ends", defArgs st_ends, defBody st_ends, defScope st_ends, [], []⟩
def dd_w_a_line : He.DefD := ⟨("_law_a_line", none), "_law_a_line", "_law_a_line", defArgs st_w_a_line, defBody st_w_a_line, defScope st_w_a_line, [], []⟩
def dd_w_a_rule : He.DefD := ⟨("_law_a_rule", none), "_law_a_rule", "_law_a_rule", defArgs st_w_a_rule, defBody st_w_a_rule, defScope st_w_a_rule, [], []⟩
def dd_w_a_rules : He.DefD := ⟨("_law_a_rules", none), "_law_a_rules", "_law_a_rules", defArgs st_w_a_rules, defBody st_w_a_rules, defScope st_w_a_rules, [], []⟩
def dd_w_a_book : He.DefD := ⟨("_law_a_book", none), "_law_a_book", "_law_a_book", defArgs st_w_a_book, defBody st_w_a_book, defScope st_w_a_book, [], []⟩
def dd_w_a_made : He.DefD := ⟨("_law_a_made", none), "_law_a_made", "_law_a_made", defArgs st_w_a_made, defBody st_w_a_made, defScope st_w_a_made, [], []⟩
def dd_w_a_taken : He.DefD := ⟨("_law_a_taken", none), "_law_a_taken", "_law_a_taken", defArgs st_w_a_taken, defBody st_w_a_taken, defScope st_w_a_taken, [], []⟩
def dd_w_a_options : He.DefD := ⟨("_law_a_options", none), "_law_a_options", "_law_a_options", defArgs st_w_a_options, defBody st_w_a_options, defScope st_w_a_options, [], []⟩
def dd_w_a_spoiled : He.DefD := ⟨("_law_a_spoiled", none), "_law_a_spoiled", "_law_a_spoiled", defArgs st_w_a_spoiled, defBody st_w_a_spoiled, defScope st_w_a_spoiled, [], []⟩
def dd_w_start : He.DefD := ⟨("_law_start", none), "_law_start", "_law_start", defArgs st_w_start, defBody st_w_start, defScope st_w_start, [], []⟩
def dd_w_draw : He.DefD := ⟨("_law_draw", none), "_law_draw", "_law_draw", defArgs st_w_draw, defBody st_w_draw, defScope st_w_draw, [], []⟩
def dd_w_pick : He.DefD := ⟨("_law_pick", none), "_law_pick", "_law_pick", defArgs st_w_pick, defBody st_w_pick, defScope st_w_pick, [], []⟩
def dd_w_mixed : He.DefD := ⟨("_law_mixed", none), "_law_mixed", "_law_mixed", defArgs st_w_mixed, defBody st_w_mixed, defScope st_w_mixed, [], []⟩
def dd_w_same : He.DefD := ⟨("_law_same", none), "_law_same", "_law_same", defArgs st_w_same, defBody st_w_same, defScope st_w_same, [], []⟩
def dd_w_loose : He.DefD := ⟨("_law_loose", none), "_law_loose", "_law_loose", defArgs st_w_loose, defBody st_w_loose, defScope st_w_loose, [], []⟩
def dd_w_b_word : He.DefD := ⟨("_law_b_word", none), "_law_b_word", "_law_b_word", defArgs st_w_b_word, defBody st_w_b_word, defScope st_w_b_word, [], []⟩
def dd_w_b_ways : He.DefD := ⟨("_law_b_ways", none), "_law_b_ways", "_law_b_ways", defArgs st_w_b_ways, defBody st_w_b_ways, defScope st_w_b_ways, [], []⟩
def dd_w_b_as_option : He.DefD := ⟨("_law_b_as_option", none), "_law_b_as_option", "_law_b_as_option", defArgs st_w_b_as_option, defBody st_w_b_as_option, defScope st_w_b_as_option, [], []⟩
def dd_w_b_wide : He.DefD := ⟨("_law_b_wide", none), "_law_b_wide", "_law_b_wide", defArgs st_w_b_wide, defBody st_w_b_wide, defScope st_w_b_wide, [], []⟩
def dd_w_met : He.DefD := ⟨("_law_met", none), "_law_met", "_law_met", defArgs st_w_met, defBody st_w_met, defScope st_w_met, [], []⟩
def dd_w_ways_right : He.DefD := ⟨("_law_ways_right", none), "_law_ways_right", "_law_ways_right", defArgs st_w_ways_right, defBody st_w_ways_right, defScope st_w_ways_right, [], []⟩
def dd_w_back_right : He.DefD := ⟨("_law_back_right", none), "_law_back_right", "_law_back_right", defArgs st_w_back_right, defBody st_w_back_right, defScope st_w_back_right, [], []⟩
def dd_w_refused_right : He.DefD := ⟨("_law_refused_right", none), "_law_refused_right", "_law_refused_right", defArgs st_w_refused_right, defBody st_w_refused_right, defScope st_w_refused_right, [], []⟩
def dd_law : He.DefD := ⟨("law", none), "law", "law", defArgs st_law, defBody st_law, defScope st_law, [], []⟩
def dd_BadBook_init : He.DefD := ⟨("BadBook", some "__init__"), "__init__", "BadBook.__init__", defArgs st_BadBook_init, defBody st_BadBook_init, defScope st_BadBook_init, [], []⟩
def dd_BadHeap_init : He.DefD := ⟨("BadHeap", some "__init__"), "__init__", "BadHeap.__init__", defArgs st_BadHeap_init, defBody st_BadHeap_init, defScope st_BadHeap_init, [], []⟩
def dd_BadNumber_init : He.DefD := ⟨("BadNumber", some "__init__"), "__init__", "BadNumber.__init__", defArgs st_BadNumber_init, defBody st_BadNumber_init, defScope st_BadNumber_init, [], []⟩
def dd_BadOption_init : He.DefD := ⟨("BadOption", some "__init__"), "__init__", "BadOption.__init__", defArgs st_BadOption_init, defBody st_BadOption_init, defScope st_BadOption_init, [], []⟩
def dd_BadRules_init : He.DefD := ⟨("BadRules", some "__init__"), "__init__", "BadRules.__init__", defArgs st_BadRules_init, defBody st_BadRules_init, defScope st_BadRules_init, [], []⟩
def dd_Book_init : He.DefD := ⟨("Book", some "__init__"), "__init__", "Book.__init__", defArgs st_Book_init, defBody st_Book_init, defScope st_Book_init, [], []⟩
def fnL : List He.DefD := [dd_is_list, dd_is_integer, dd_is_number, dd_is_heap, dd_shared, dd_multiple, dd_is_rule, dd_go_together, dd_rule_line, dd_checked_rules, dd_checked_book, dd_checked_heap, dd_joined, dd_taken_most, dd_spans_in, dd_option_in, dd_checked_option, dd_ways_to, dd_many_to, dd_count_in, dd_checked_most, dd_heaps_from, dd_ends, dd_w_a_line, dd_w_a_rule, dd_w_a_rules, dd_w_a_book, dd_w_a_made, dd_w_a_taken, dd_w_a_options, dd_w_a_spoiled, dd_w_start, dd_w_draw, dd_w_pick, dd_w_mixed, dd_w_same, dd_w_loose, dd_w_b_word, dd_w_b_ways, dd_w_b_as_option, dd_w_b_wide, dd_w_met, dd_w_ways_right, dd_w_back_right, dd_w_refused_right, dd_law, dd_BadBook_init, dd_BadHeap_init, dd_BadNumber_init, dd_BadOption_init, dd_BadRules_init, dd_Book_init]
def faL : List He.Fa := [.glo "is_list", .glo "is_integer", .glo "is_number", .glo "is_heap", .glo "shared", .glo "multiple", .glo "is_rule", .glo "go_together", .glo "rule_line", .glo "checked_rules", .glo "checked_book", .glo "checked_heap", .glo "joined", .glo "taken_most", .glo "spans_in", .glo "option_in", .glo "checked_option", .glo "ways_to", .glo "many_to", .glo "count_in", .glo "checked_most", .glo "heaps_from", .glo "ends", .glo "_law_a_line", .glo "_law_a_rule", .glo "_law_a_rules", .glo "_law_a_book", .glo "_law_a_made", .glo "_law_a_taken", .glo "_law_a_options", .glo "_law_a_spoiled", .glo "_law_start", .glo "_law_draw", .glo "_law_pick", .glo "_law_mixed", .glo "_law_same", .glo "_law_loose", .glo "_law_b_word", .glo "_law_b_ways", .glo "_law_b_as_option", .glo "_law_b_wide", .glo "_law_met", .glo "_law_ways_right", .glo "_law_back_right", .glo "_law_refused_right", .glo "law", .glo "BadBook", .glo "BadHeap", .glo "BadNumber", .glo "BadOption", .glo "BadRules", .glo "Book", .free "len", .free "isinstance", .free "list", .free "tuple", .free "int", .free "bool", .free "str", .free "dict", .free "range", .free "max", .free "min", .free "sorted", .free "sum", .free "any", .free "all", .free "enumerate", .free "zip", .free "repr", .free "ValueError", .int "GREATEST" (10 ^ 18), .cls "Book", .mkr "Book", .noat "Book" "own_rules", .noat "Book" "own_most", .noat "Book" "own_turn", .noat "Book" "is_growing", .exm "BadBook" "BadBook" true, .exm "BadBook" "BadHeap" false, .exm "BadBook" "BadOption" false, .exm "BadBook" "BadNumber" false, .exm "BadHeap" "BadBook" false, .exm "BadHeap" "BadHeap" true, .exm "BadHeap" "BadOption" false, .exm "BadHeap" "BadNumber" false, .exm "BadOption" "BadBook" false, .exm "BadOption" "BadHeap" false, .exm "BadOption" "BadOption" true, .exm "BadOption" "BadNumber" false, .exm "BadNumber" "BadBook" false, .exm "BadNumber" "BadHeap" false, .exm "BadNumber" "BadOption" false, .exm "BadNumber" "BadNumber" true]
def tfL : List He.Defn := [("_law_ways_right", none), ("_law_refused_right", none)]
def namesA : List PySem.Str := ["HeapError", "BadBook", "BadHeap", "BadNumber", "BadOption", "BadRules", "Made", "Book", "is_list", "is_integer", "is_number", "is_heap", "shared", "multiple", "is_rule", "go_together", "rule_line", "checked_rules", "checked_book", "checked_heap", "joined", "taken_most", "spans_in", "option_in", "checked_option", "ways_to", "many_to", "count_in", "checked_most", "heaps_from"]
def namesB : List PySem.Str := ["ends", "_law_a_line", "_law_a_rule", "_law_a_rules", "_law_a_book", "_law_a_made", "_law_a_taken", "_law_a_options", "_law_a_spoiled", "_law_start", "_law_draw", "_law_pick", "_law_mixed", "_law_same", "_law_loose", "_law_b_word", "_law_b_ways", "_law_b_as_option", "_law_b_wide", "_law_met", "_law_ways_right", "_law_back_right", "_law_refused_right", "GREATEST"]
abbrev R : PySem.W.OpenRow := PySem.W.OpenLaw.row PySem.Challenge.rw_takeandsplit_k11_whole_ways_and_back
abbrev hk : PySem.W.Hook := He.hookX 5 faL fnL [] tfL exB
def ob (s : PySem.W.SharedT) : He.AlX := He.obsX 5 faL fnL [] tfL exB (HandSHeadRun.getT s)
theorem ob_eq (s : PySem.W.SharedT) : ob s = hk.obs s.abs := He.obsX_eq (HandSHeadRun.getT_eq s)
theorem run (w : World) : HandSHeadRun.RunEq R (PySem.W.view R.prog [60]) hk ob 9000 (namesA ++ namesB) w := by
  intro os
  kernel_rfl
theorem txt_of {K : PySem.W.Frag} {h : Heap} {mg : Str → Option Value} {w : World} (X : K.In h) (G : h.Ns mainGlobals mg) (c : He.SaysX faL fnL [] tfL exB w h K) : Txt K mg := by
  have d := c.t.d
  have more := He.ba c.more
  have more2 := He.ba more.2
  have tab2 : (He.cT K ("_law_ways_right", none)).2 ≠ (He.cT K ("_law_refused_right", none)).2 := fun z => by
    have q := more2.2
    rw [decide_eq_true z] at q
    cases q
  have ex := fun p hp => List.all_eq_true.mp more.1 p hp
  have cl := He.cls_ok (d.fact 72 (f := .cls "Book") rfl)
  exact {
    f_len := He.free_ok X G (d.fact 52 (f := .free "len") rfl)
    f_isinstance := He.free_ok X G (d.fact 53 (f := .free "isinstance") rfl)
    f_list := He.free_ok X G (d.fact 54 (f := .free "list") rfl)
    f_tuple := He.free_ok X G (d.fact 55 (f := .free "tuple") rfl)
    f_int := He.free_ok X G (d.fact 56 (f := .free "int") rfl)
    f_bool := He.free_ok X G (d.fact 57 (f := .free "bool") rfl)
    f_str := He.free_ok X G (d.fact 58 (f := .free "str") rfl)
    f_dict := He.free_ok X G (d.fact 59 (f := .free "dict") rfl)
    f_range := He.free_ok X G (d.fact 60 (f := .free "range") rfl)
    f_max := He.free_ok X G (d.fact 61 (f := .free "max") rfl)
    f_min := He.free_ok X G (d.fact 62 (f := .free "min") rfl)
    f_sorted := He.free_ok X G (d.fact 63 (f := .free "sorted") rfl)
    f_sum := He.free_ok X G (d.fact 64 (f := .free "sum") rfl)
    f_any := He.free_ok X G (d.fact 65 (f := .free "any") rfl)
    f_all := He.free_ok X G (d.fact 66 (f := .free "all") rfl)
    f_enumerate := He.free_ok X G (d.fact 67 (f := .free "enumerate") rfl)
    f_zip := He.free_ok X G (d.fact 68 (f := .free "zip") rfl)
    f_repr := He.free_ok X G (d.fact 69 (f := .free "repr") rfl)
    f_ValueError := He.free_ok X G (d.fact 70 (f := .free "ValueError") rfl)
    great := He.int_ok X G (d.fact 71 (f := .int "GREATEST" (10 ^ 18)) rfl)
    d_is_list := by
      obtain ⟨fd, F⟩ := d.def_ 0 (d := dd_is_list) rfl
      exact ⟨fd, F, He.glo_ok X G (d.fact 0 (f := .glo "is_list") rfl), F.bindsN (ps := ["thing"]) fun _ _ _ _ _ _ us hl => match us, hl with | [_], _ => rfl⟩
    d_is_integer := by
      obtain ⟨fd, F⟩ := d.def_ 1 (d := dd_is_integer) rfl
      exact ⟨fd, F, He.glo_ok X G (d.fact 1 (f := .glo "is_integer") rfl), F.bindsN (ps := ["thing"]) fun _ _ _ _ _ _ us hl => match us, hl with | [_], _ => rfl⟩
    d_is_number := by
      obtain ⟨fd, F⟩ := d.def_ 2 (d := dd_is_number) rfl
      exact ⟨fd, F, He.glo_ok X G (d.fact 2 (f := .glo "is_number") rfl), F.bindsN (ps := ["thing"]) fun _ _ _ _ _ _ us hl => match us, hl with | [_], _ => rfl⟩
    d_is_heap := by
      obtain ⟨fd, F⟩ := d.def_ 3 (d := dd_is_heap) rfl
      exact ⟨fd, F, He.glo_ok X G (d.fact 3 (f := .glo "is_heap") rfl), F.bindsN (ps := ["thing"]) fun _ _ _ _ _ _ us hl => match us, hl with | [_], _ => rfl⟩
    d_shared := by
      obtain ⟨fd, F⟩ := d.def_ 4 (d := dd_shared) rfl
      exact ⟨fd, F, He.glo_ok X G (d.fact 4 (f := .glo "shared") rfl), F.bindsN (ps := ["one", "other"]) fun _ _ _ _ _ _ us hl => match us, hl with | [_, _], _ => rfl⟩
    d_multiple := by
      obtain ⟨fd, F⟩ := d.def_ 5 (d := dd_multiple) rfl
      exact ⟨fd, F, He.glo_ok X G (d.fact 5 (f := .glo "multiple") rfl), F.bindsN (ps := ["one", "other"]) fun _ _ _ _ _ _ us hl => match us, hl with | [_, _], _ => rfl⟩
    d_is_rule := by
      obtain ⟨fd, F⟩ := d.def_ 6 (d := dd_is_rule) rfl
      exact ⟨fd, F, He.glo_ok X G (d.fact 6 (f := .glo "is_rule") rfl), F.bindsN (ps := ["thing"]) fun _ _ _ _ _ _ us hl => match us, hl with | [_], _ => rfl⟩
    d_go_together := by
      obtain ⟨fd, F⟩ := d.def_ 7 (d := dd_go_together) rfl
      exact ⟨fd, F, He.glo_ok X G (d.fact 7 (f := .glo "go_together") rfl), F.bindsN (ps := ["rule", "other"]) fun _ _ _ _ _ _ us hl => match us, hl with | [_, _], _ => rfl⟩
    d_rule_line := by
      obtain ⟨fd, F⟩ := d.def_ 8 (d := dd_rule_line) rfl
      exact ⟨fd, F, He.glo_ok X G (d.fact 8 (f := .glo "rule_line") rfl), F.bindsN (ps := ["rule"]) fun _ _ _ _ _ _ us hl => match us, hl with | [_], _ => rfl⟩
    d_checked_rules := by
      obtain ⟨fd, F⟩ := d.def_ 9 (d := dd_checked_rules) rfl
      exact ⟨fd, F, He.glo_ok X G (d.fact 9 (f := .glo "checked_rules") rfl), F.bindsN (ps := ["rules"]) fun _ _ _ _ _ _ us hl => match us, hl with | [_], _ => rfl⟩
    d_checked_book := by
      obtain ⟨fd, F⟩ := d.def_ 10 (d := dd_checked_book) rfl
      exact ⟨fd, F, He.glo_ok X G (d.fact 10 (f := .glo "checked_book") rfl), F.bindsN (ps := ["book"]) fun _ _ _ _ _ _ us hl => match us, hl with | [_], _ => rfl⟩
    d_checked_heap := by
      obtain ⟨fd, F⟩ := d.def_ 11 (d := dd_checked_heap) rfl
      exact ⟨fd, F, He.glo_ok X G (d.fact 11 (f := .glo "checked_heap") rfl), F.bindsN (ps := ["heap"]) fun _ _ _ _ _ _ us hl => match us, hl with | [_], _ => rfl⟩
    d_joined := by
      obtain ⟨fd, F⟩ := d.def_ 12 (d := dd_joined) rfl
      exact ⟨fd, F, He.glo_ok X G (d.fact 12 (f := .glo "joined") rfl), F.bindsN (ps := ["spans"]) fun _ _ _ _ _ _ us hl => match us, hl with | [_], _ => rfl⟩
    d_taken_most := by
      obtain ⟨fd, F⟩ := d.def_ 13 (d := dd_taken_most) rfl
      exact ⟨fd, F, He.glo_ok X G (d.fact 13 (f := .glo "taken_most") rfl), F.bindsN (ps := ["rule", "heap"]) fun _ _ _ _ _ _ us hl => match us, hl with | [_, _], _ => rfl⟩
    d_spans_in := by
      obtain ⟨fd, F⟩ := d.def_ 14 (d := dd_spans_in) rfl
      exact ⟨fd, F, He.glo_ok X G (d.fact 14 (f := .glo "spans_in") rfl), F.bindsN (ps := ["book", "heap"]) fun _ _ _ _ _ _ us hl => match us, hl with | [_, _], _ => rfl⟩
    d_option_in := by
      obtain ⟨fd, F⟩ := d.def_ 15 (d := dd_option_in) rfl
      exact ⟨fd, F, He.glo_ok X G (d.fact 15 (f := .glo "option_in") rfl), F.bindsN (ps := ["book", "heap", "thing"]) fun _ _ _ _ _ _ us hl => match us, hl with | [_, _, _], _ => rfl⟩
    d_checked_option := by
      obtain ⟨fd, F⟩ := d.def_ 16 (d := dd_checked_option) rfl
      exact ⟨fd, F, He.glo_ok X G (d.fact 16 (f := .glo "checked_option") rfl), F.bindsN (ps := ["book", "heap", "option"]) fun _ _ _ _ _ _ us hl => match us, hl with | [_, _, _], _ => rfl⟩
    d_ways_to := by
      obtain ⟨fd, F⟩ := d.def_ 17 (d := dd_ways_to) rfl
      exact ⟨fd, F, He.glo_ok X G (d.fact 17 (f := .glo "ways_to") rfl), F.bindsN (ps := ["book", "heap", "option"]) fun _ _ _ _ _ _ us hl => match us, hl with | [_, _, _], _ => rfl⟩
    d_many_to := by
      obtain ⟨fd, F⟩ := d.def_ 18 (d := dd_many_to) rfl
      exact ⟨fd, F, He.glo_ok X G (d.fact 18 (f := .glo "many_to") rfl), F.bindsN (ps := ["spans", "sums", "most"]) fun _ _ _ _ _ _ us hl => match us, hl with | [_, _, _], _ => rfl⟩
    d_count_in := by
      obtain ⟨fd, F⟩ := d.def_ 19 (d := dd_count_in) rfl
      exact ⟨fd, F, He.glo_ok X G (d.fact 19 (f := .glo "count_in") rfl), F.bindsN (ps := ["book", "heap"]) fun _ _ _ _ _ _ us hl => match us, hl with | [_, _], _ => rfl⟩
    d_checked_most := by
      obtain ⟨fd, F⟩ := d.def_ 20 (d := dd_checked_most) rfl
      exact ⟨fd, F, He.glo_ok X G (d.fact 20 (f := .glo "checked_most") rfl), F.bindsN (ps := ["most"]) fun _ _ _ _ _ _ us hl => match us, hl with | [_], _ => rfl⟩
    d_heaps_from := by
      obtain ⟨fd, F⟩ := d.def_ 21 (d := dd_heaps_from) rfl
      exact ⟨fd, F, He.glo_ok X G (d.fact 21 (f := .glo "heaps_from") rfl), F.bindsN (ps := ["book", "option", "most"]) fun _ _ _ _ _ _ us hl => match us, hl with | [_, _, _], _ => rfl⟩
    d_ends := by
      obtain ⟨fd, F⟩ := d.def_ 22 (d := dd_ends) rfl
      exact ⟨fd, F, He.glo_ok X G (d.fact 22 (f := .glo "ends") rfl), F.bindsN (ps := ["book", "most"]) fun _ _ _ _ _ _ us hl => match us, hl with | [_, _], _ => rfl⟩
    d_w_a_line := by
      obtain ⟨fd, F⟩ := d.def_ 23 (d := dd_w_a_line) rfl
      exact ⟨fd, F, He.glo_ok X G (d.fact 23 (f := .glo "_law_a_line") rfl), F.bindsN (ps := ["_law_rule"]) fun _ _ _ _ _ _ us hl => match us, hl with | [_], _ => rfl⟩
    d_w_a_rule := by
      obtain ⟨fd, F⟩ := d.def_ 24 (d := dd_w_a_rule) rfl
      exact ⟨fd, F, He.glo_ok X G (d.fact 24 (f := .glo "_law_a_rule") rfl), F.bindsN (ps := ["_law_stream", "_law_lefts", "_law_far", "_law_turns"]) fun _ _ _ _ _ _ us hl => match us, hl with | [_, _, _, _], _ => rfl⟩
    d_w_a_rules := by
      obtain ⟨fd, F⟩ := d.def_ 25 (d := dd_w_a_rules) rfl
      exact ⟨fd, F, He.glo_ok X G (d.fact 25 (f := .glo "_law_a_rules") rfl), F.bindsN (ps := ["_law_stream", "_law_way", "_law_many", "_law_far", "_law_turns"]) fun _ _ _ _ _ _ us hl => match us, hl with | [_, _, _, _, _], _ => rfl⟩
    d_w_a_book := by
      obtain ⟨fd, F⟩ := d.def_ 26 (d := dd_w_a_book) rfl
      exact ⟨fd, F, He.glo_ok X G (d.fact 26 (f := .glo "_law_a_book") rfl), F.bindsN (ps := ["_law_stream"]) fun _ _ _ _ _ _ us hl => match us, hl with | [_], _ => rfl⟩
    d_w_a_made := by
      obtain ⟨fd, F⟩ := d.def_ 27 (d := dd_w_a_made) rfl
      exact ⟨fd, F, He.glo_ok X G (d.fact 27 (f := .glo "_law_a_made") rfl), F.bindsN (ps := ["_law_stream", "_law_raw"]) fun _ _ _ _ _ _ us hl => match us, hl with | [_, _], _ => rfl⟩
    d_w_a_taken := by
      obtain ⟨fd, F⟩ := d.def_ 28 (d := dd_w_a_taken) rfl
      exact ⟨fd, F, He.glo_ok X G (d.fact 28 (f := .glo "_law_a_taken") rfl), F.bindsN (ps := ["_law_raw", "_law_heap"]) fun _ _ _ _ _ _ us hl => match us, hl with | [_, _], _ => rfl⟩
    d_w_a_options := by
      obtain ⟨fd, F⟩ := d.def_ 29 (d := dd_w_a_options) rfl
      exact ⟨fd, F, He.glo_ok X G (d.fact 29 (f := .glo "_law_a_options") rfl), F.bindsN (ps := ["_law_raw", "_law_heap"]) fun _ _ _ _ _ _ us hl => match us, hl with | [_, _], _ => rfl⟩
    d_w_a_spoiled := by
      obtain ⟨fd, F⟩ := d.def_ 30 (d := dd_w_a_spoiled) rfl
      exact ⟨fd, F, He.glo_ok X G (d.fact 30 (f := .glo "_law_a_spoiled") rfl), F.bindsN (ps := ["_law_thing"]) fun _ _ _ _ _ _ us hl => match us, hl with | [_], _ => rfl⟩
    d_w_start := by
      obtain ⟨fd, F⟩ := d.def_ 31 (d := dd_w_start) rfl
      exact ⟨fd, F, He.glo_ok X G (d.fact 31 (f := .glo "_law_start") rfl), F.bindsN (ps := ["_law_script"]) fun _ _ _ _ _ _ us hl => match us, hl with | [_], _ => rfl⟩
    d_w_draw := by
      obtain ⟨fd, F⟩ := d.def_ 32 (d := dd_w_draw) rfl
      exact ⟨fd, F, He.glo_ok X G (d.fact 32 (f := .glo "_law_draw") rfl), F.bindsN (ps := ["_law_stream", "_law_many"]) fun _ _ _ _ _ _ us hl => match us, hl with | [_, _], _ => rfl⟩
    d_w_pick := by
      obtain ⟨fd, F⟩ := d.def_ 33 (d := dd_w_pick) rfl
      exact ⟨fd, F, He.glo_ok X G (d.fact 33 (f := .glo "_law_pick") rfl), F.bindsN (ps := ["_law_stream", "_law_some"]) fun _ _ _ _ _ _ us hl => match us, hl with | [_, _], _ => rfl⟩
    d_w_mixed := by
      obtain ⟨fd, F⟩ := d.def_ 34 (d := dd_w_mixed) rfl
      exact ⟨fd, F, He.glo_ok X G (d.fact 34 (f := .glo "_law_mixed") rfl), F.bindsN (ps := ["_law_stream", "_law_some"]) fun _ _ _ _ _ _ us hl => match us, hl with | [_, _], _ => rfl⟩
    d_w_same := by
      obtain ⟨fd, F⟩ := d.def_ 35 (d := dd_w_same) rfl
      exact ⟨fd, F, He.glo_ok X G (d.fact 35 (f := .glo "_law_same") rfl), F.bindsN (ps := ["_law_found", "_law_due"]) fun _ _ _ _ _ _ us hl => match us, hl with | [_, _], _ => rfl⟩
    d_w_loose := by
      obtain ⟨fd, F⟩ := d.def_ 36 (d := dd_w_loose) rfl
      exact ⟨fd, F, He.glo_ok X G (d.fact 36 (f := .glo "_law_loose") rfl), F.bindsN (ps := ["_law_stream", "_law_thing"]) fun _ _ _ _ _ _ us hl => match us, hl with | [_, _], _ => rfl⟩
    d_w_b_word := by
      obtain ⟨fd, F⟩ := d.def_ 37 (d := dd_w_b_word) rfl
      exact ⟨fd, F, He.glo_ok X G (d.fact 37 (f := .glo "_law_b_word") rfl), F.bindsN (ps := ["_law_option"]) fun _ _ _ _ _ _ us hl => match us, hl with | [_], _ => rfl⟩
    d_w_b_ways := by
      obtain ⟨fd, F⟩ := d.def_ 38 (d := dd_w_b_ways) rfl
      exact ⟨fd, F, He.glo_ok X G (d.fact 38 (f := .glo "_law_b_ways") rfl), F.bindsN (ps := ["_law_raw", "_law_heap", "_law_option"]) fun _ _ _ _ _ _ us hl => match us, hl with | [_, _, _], _ => rfl⟩
    d_w_b_as_option := by
      obtain ⟨fd, F⟩ := d.def_ 39 (d := dd_w_b_as_option) rfl
      exact ⟨fd, F, He.glo_ok X G (d.fact 39 (f := .glo "_law_b_as_option") rfl), F.bindsN (ps := ["_law_raw", "_law_heap", "_law_thing"]) fun _ _ _ _ _ _ us hl => match us, hl with | [_, _, _], _ => rfl⟩
    d_w_b_wide := by
      obtain ⟨fd, F⟩ := d.def_ 40 (d := dd_w_b_wide) rfl
      exact ⟨fd, F, He.glo_ok X G (d.fact 40 (f := .glo "_law_b_wide") rfl), F.bindsN (ps := ["_law_stream"]) fun _ _ _ _ _ _ us hl => match us, hl with | [_], _ => rfl⟩
    d_w_met := by
      obtain ⟨fd, F⟩ := d.def_ 41 (d := dd_w_met) rfl
      exact ⟨fd, F, He.glo_ok X G (d.fact 41 (f := .glo "_law_met") rfl), F.bindsN (ps := ["_law_ask"]) fun _ _ _ _ _ _ us hl => match us, hl with | [_], _ => rfl⟩
    d_w_ways_right := by
      obtain ⟨fd, F⟩ := d.def_ 42 (d := dd_w_ways_right) rfl
      exact ⟨fd, F, He.glo_ok X G (d.fact 42 (f := .glo "_law_ways_right") rfl), F.bindsN (ps := ["_law_stream", "_law_raw", "_law_made", "_law_heap", "_law_some"]) fun _ _ _ _ _ _ us hl => match us, hl with | [_, _, _, _, _], _ => rfl⟩
    d_w_back_right := by
      obtain ⟨fd, F⟩ := d.def_ 43 (d := dd_w_back_right) rfl
      exact ⟨fd, F, He.glo_ok X G (d.fact 43 (f := .glo "_law_back_right") rfl), F.bindsN (ps := ["_law_stream", "_law_raw", "_law_made", "_law_most"]) fun _ _ _ _ _ _ us hl => match us, hl with | [_, _, _, _], _ => rfl⟩
    d_w_refused_right := by
      obtain ⟨fd, F⟩ := d.def_ 44 (d := dd_w_refused_right) rfl
      exact ⟨fd, F, He.glo_ok X G (d.fact 44 (f := .glo "_law_refused_right") rfl), F.bindsN (ps := ["_law_made"]) fun _ _ _ _ _ _ us hl => match us, hl with | [_], _ => rfl⟩
    d_law := by
      obtain ⟨fd, F⟩ := d.def_ 45 (d := dd_law) rfl
      exact ⟨fd, F, He.glo_ok X G (d.fact 45 (f := .glo "law") rfl), F.bindsN (ps := ["_law_script"]) fun _ _ _ _ _ _ us hl => match us, hl with | [_], _ => rfl⟩
    e_BadBook := exc_mk (h := h) (He.glo_ok X G (d.fact 46 (f := .glo "BadBook") rfl)) (ex ("BadBook", "thing") (by decide +kernel)) (by
      obtain ⟨fd, F⟩ := d.def_ 46 (d := dd_BadBook_init) rfl
      exact ⟨fd, F, F.bindsN (ps := ["self", "thing"]) fun _ _ _ _ _ _ us hl => match us, hl with | [_, _], _ => rfl⟩)
    e_BadHeap := exc_mk (h := h) (He.glo_ok X G (d.fact 47 (f := .glo "BadHeap") rfl)) (ex ("BadHeap", "thing") (by decide +kernel)) (by
      obtain ⟨fd, F⟩ := d.def_ 47 (d := dd_BadHeap_init) rfl
      exact ⟨fd, F, F.bindsN (ps := ["self", "thing"]) fun _ _ _ _ _ _ us hl => match us, hl with | [_, _], _ => rfl⟩)
    e_BadNumber := exc_mk (h := h) (He.glo_ok X G (d.fact 48 (f := .glo "BadNumber") rfl)) (ex ("BadNumber", "thing") (by decide +kernel)) (by
      obtain ⟨fd, F⟩ := d.def_ 48 (d := dd_BadNumber_init) rfl
      exact ⟨fd, F, F.bindsN (ps := ["self", "thing"]) fun _ _ _ _ _ _ us hl => match us, hl with | [_, _], _ => rfl⟩)
    e_BadOption := exc_mk (h := h) (He.glo_ok X G (d.fact 49 (f := .glo "BadOption") rfl)) (ex ("BadOption", "thing") (by decide +kernel)) (by
      obtain ⟨fd, F⟩ := d.def_ 49 (d := dd_BadOption_init) rfl
      exact ⟨fd, F, F.bindsN (ps := ["self", "thing"]) fun _ _ _ _ _ _ us hl => match us, hl with | [_, _], _ => rfl⟩)
    e_BadRules := exc_mk (h := h) (He.glo_ok X G (d.fact 50 (f := .glo "BadRules") rfl)) (ex ("BadRules", "index") (by decide +kernel)) (by
      obtain ⟨fd, F⟩ := d.def_ 50 (d := dd_BadRules_init) rfl
      exact ⟨fd, F, F.bindsN (ps := ["self", "index"]) fun _ _ _ _ _ _ us hl => match us, hl with | [_, _], _ => rfl⟩)
    bookG := He.glo_ok X G (d.fact 51 (f := .glo "Book") rfl)
    bookC := cl
    bookI := ins_mk cl more2.1
    bookM := He.mkr_ok (d.fact 73 (f := .mkr "Book") rfl)
    bookF := by
      obtain ⟨fd, F⟩ := d.def_ 51 (d := dd_Book_init) rfl
      exact ⟨fd, F, F.bindsN (ps := ["self", "rules"]) fun _ _ _ _ _ _ us hl => match us, hl with | [_, _], _ => rfl⟩
    bookN1 := He.noat_ok (d.fact 74 (f := .noat "Book" "own_rules") rfl)
    bookN2 := He.noat_ok (d.fact 75 (f := .noat "Book" "own_most") rfl)
    bookN3 := He.noat_ok (d.fact 76 (f := .noat "Book" "own_turn") rfl)
    bookN4 := He.noat_ok (d.fact 77 (f := .noat "Book" "is_growing") rfl)
    tab2 := tab2
    x_BadBook_BadBook := He.exm_ok (d.fact 78 (f := .exm "BadBook" "BadBook" true) rfl)
    x_BadBook_BadHeap := He.exm_ok (d.fact 79 (f := .exm "BadBook" "BadHeap" false) rfl)
    x_BadBook_BadOption := He.exm_ok (d.fact 80 (f := .exm "BadBook" "BadOption" false) rfl)
    x_BadBook_BadNumber := He.exm_ok (d.fact 81 (f := .exm "BadBook" "BadNumber" false) rfl)
    x_BadHeap_BadBook := He.exm_ok (d.fact 82 (f := .exm "BadHeap" "BadBook" false) rfl)
    x_BadHeap_BadHeap := He.exm_ok (d.fact 83 (f := .exm "BadHeap" "BadHeap" true) rfl)
    x_BadHeap_BadOption := He.exm_ok (d.fact 84 (f := .exm "BadHeap" "BadOption" false) rfl)
    x_BadHeap_BadNumber := He.exm_ok (d.fact 85 (f := .exm "BadHeap" "BadNumber" false) rfl)
    x_BadOption_BadBook := He.exm_ok (d.fact 86 (f := .exm "BadOption" "BadBook" false) rfl)
    x_BadOption_BadHeap := He.exm_ok (d.fact 87 (f := .exm "BadOption" "BadHeap" false) rfl)
    x_BadOption_BadOption := He.exm_ok (d.fact 88 (f := .exm "BadOption" "BadOption" true) rfl)
    x_BadOption_BadNumber := He.exm_ok (d.fact 89 (f := .exm "BadOption" "BadNumber" false) rfl)
    x_BadNumber_BadBook := He.exm_ok (d.fact 90 (f := .exm "BadNumber" "BadBook" false) rfl)
    x_BadNumber_BadHeap := He.exm_ok (d.fact 91 (f := .exm "BadNumber" "BadHeap" false) rfl)
    x_BadNumber_BadOption := He.exm_ok (d.fact 92 (f := .exm "BadNumber" "BadOption" false) rfl)
    x_BadNumber_BadNumber := He.exm_ok (d.fact 93 (f := .exm "BadNumber" "BadNumber" true) rfl)
  }
end Tk
namespace Tk
open PySem PySem.Spec PyProof.Rows L2
open Evl (Ex ex_l ex_t ex_rd sq_of st_of fresh_back)
/-! ### defs of the top, by their promises -/
/-- the def that the name x has keeps sp -/
def Kept (P : Program) (w : World) (K : PySem.W.Frag) (mg : Str → Option Value) (base : Heap) (CX : CXT) (k : Nat) (x : Str) (ps : List Str) (sp : Sp) : Prop :=
  ∃ st fd, DefAt K mg x st ps fd ∧ FnOk P w K mg base CX k (He.ga K x) fd ps sp
section
variable {P : Program} {w : World} {K : PySem.W.Frag} {mg : Str → Option Value} {base : Heap} {k : Nat} {x : Str} {ps N : List Str} {sp : Sp} {st : Stmt}
theorem Kept.mono {CX : CXT} {j : Nat} (G : Kept P w K mg base CX k x ps sp) (h : k ≤ j) : Kept P w K mg base CX j x ps sp := by
  obtain ⟨st, fd, D, F⟩ := G
  exact ⟨st, fd, D, F.mono h⟩
/-- a def that lets nothing out -/
theorem kept0 (D : ∃ fd, DefAt K mg x st ps fd) (S : FnScope N ps (defScope st)) (len : ∀ vs H Q E, sp vs H Q E → vs.length = ps.length)
    (hbody : ∀ (cdv : Value) (A : Around) (outer : List Env) (s : Shared) (H : Hp) (vs : List V) (Q : VK) (E : XK), Room k (A.deeper (envOfC x (defScope st) s.heap.objs.size (He.ga K x) cdv)) → sp vs H Q E →
      ∃ t, PSs (cxOf CX0 P w K mg base N x (defScope st) (He.ga K x) cdv A outer s H E).nox (defBody st) t ∧ t { nx := fun _ H' => Q .non H', rt := Q } (start N vs) H) : Kept P w K mg base CX0 (k + 1) x ps sp := by
  obtain ⟨fd, D⟩ := D
  refine ⟨st, fd, D, D.F.ok S len fun cdv A outer s H vs Q E hr h => ?_⟩
  obtain ⟨t, ht, hq⟩ := hbody cdv A outer s H vs Q E hr h
  exact ⟨t, ht.nox, hq⟩
/-- a def that errors leave -/
theorem keptX (D : ∃ fd, DefAt K mg x st ps fd) (S : FnScope N ps (defScope st)) (len : ∀ vs H Q E, sp vs H Q E → vs.length = ps.length)
    (hbody : ∀ (cdv : Value) (A : Around) (outer : List Env) (s : Shared) (H : Hp) (vs : List V) (Q : VK) (E : XK), Room k (A.deeper (envOfC x (defScope st) s.heap.objs.size (He.ga K x) cdv)) → sp vs H Q E →
      ∃ t, PSs (cxOf (L2.CX P w) P w K mg base N x (defScope st) (He.ga K x) cdv A outer s H E) (defBody st) t ∧ t { nx := fun _ H' => Q .non H', rt := Q } (start N vs) H) : Kept P w K mg base (L2.CX P w) (k + 1) x ps sp := by
  obtain ⟨fd, D⟩ := D
  exact ⟨st, fd, D, D.F.ok S len hbody⟩
end
section
variable {X : Cx} {CX : CXT} {k : Nat} {x : Str} {ps : List Str} {sp : Sp} {E : XK} {p pos : Pos} {e : Expr} {es : List Expr} {t : TA}
/-- a call of it -/
theorem pe_c (G : Kept X.prog X.w X.K X.mg X.base CX k x ps sp) (hr : Room k X.A) (hx : Passes CX X E) (ha : PA X (e :: es) t) (hg : Gl X x := by rfl) (hdb : (x == ("__debug__" : Str)) = false := by decide)
    (he : starEach (e :: es) X.env = (false, eval e X.env) :: starEach es X.env := by rfl) (hpl : (backTo pos (starEach es X.env)).any (·.1) = false := by rfl) : PE X (.Call (.Name x p) (e :: es) [] pos) (tCall sp [] E t) := by
  obtain ⟨st, fd, D, F⟩ := G
  exact pe_call F hr hg D.g D.F.kp D.b .nil hx ha hdb he hpl
end
/-! ### heaps: what is known (G) of the heap (H) -/
/-- the stream of draws: at a the list of four, at c the cells; at most n were drawn -/
def StA (H : Hp) (a c : Addr) (n : Nat) : Prop := a ≠ c ∧ ∃ (r k m : Int) (cs : List Int), H a = some (.lst [.ref c, .int r, .int k, .int m]) ∧ H c = some (.lst (cs.map V.int)) ∧ 0 ≤ r ∧ 0 ≤ k ∧ k ≤ n ∧ 0 ≤ m ∧ m < 2147483647
structure Fr (G H : Hp) (a c : Addr) (n : Nat) : Prop where
  ex : Ex G H
  ga : G a = none
  gc : G c = none
  st : StA H a c n
/-! ### one step of a reading -/
def NewL (xs : List V) (H : Hp) (Q : VK) : Prop := xs.length ≤ sizeLine ∧ ∀ p, H p = none → Q (.ref p) (upd H p (.lst xs))
def NewT (xs : List V) (H : Hp) (Q : VK) : Prop := xs.length ≤ sizeLine ∧ ∀ p, H p = none → Q (.ref p) (upd H p (.tup xs))
section
variable {K : PySem.W.Frag} {σ : L2.St} {H : Hp} {D : Ends} {t u : TS} {te ta tb : TE} {tt tu : TT} {tp : TA} {Q : VK} {QB : Bool → Hp → Prop} {QS : L2.St → Hp → Prop} {QA : List V → Hp → Prop} {v x y : V} {i j : Int} {n : Nat}
theorem g_seq (h : t { D with nx := u D } σ H) : tSeq t u D σ H := h
theorem g_asg {g : TG} (h : te σ H fun x H1 => g x σ H1 D.nx) : tAsg te g D σ H := h
theorem g_name (h : QS (σ.set n (some v)) H) : gName n v σ H QS := h
theorem g_sub {to ti : TE} {ts : TSet} (h : to σ H fun o H1 => ti σ H1 fun i H2 => ts o i v H2 fun H3 => QS σ H3) : gSub to ti ts v σ H QS := h
theorem g_var (e : σ[n]? = some (some v)) (h : Q v H) : tVar n σ H Q := ⟨v, e, h⟩
theorem g_c (h : Q v H) : tC v σ H Q := h
theorem g_op {r : R2} (h : ta σ H fun x H1 => tb σ H1 fun y H2 => r x y H2 Q) : tOp r ta tb σ H Q := h
theorem g_un {r : V → Hp → VK → Prop} (h : ta σ H fun x H1 => r x H1 Q) : tUn r ta σ H Q := h
theorem g_U {g : Int → V} (h : Q (g i) H) : rU g (.int i) H Q := ⟨i, rfl, h⟩
theorem g_I0 {g : Int → Int → V} (h : Q (g i j) H) : rI0 g (.int i) (.int j) H Q := ⟨i, j, rfl, rfl, h⟩
theorem g_I {C : Int → Int → Prop} {g : Int → Int → V} (hc : C i j) (h : Q (g i j) H) : rI C g (.int i) (.int j) H Q := ⟨i, j, rfl, rfl, hc, h⟩
theorem g_eqI (h : Q (.bl (decide (i = j))) H) : rEq (.int i) (.int j) H Q := ⟨rfl, by rw [show decide (V.int i = V.int j) = decide (i = j) by simp]; exact h⟩
theorem g_neI (h : Q (.bl (!decide (i = j))) H) : rNe (.int i) (.int j) H Q := ⟨rfl, by rw [show decide (V.int i = V.int j) = decide (i = j) by simp]; exact h⟩
theorem g_eqS {a b : Str} (h : Q (.bl (decide (a = b))) H) : rEq (.str a) (.str b) H Q := ⟨rfl, by rw [show decide (V.str a = V.str b) = decide (a = b) by simp]; exact h⟩
theorem g_neS {a b : Str} (h : Q (.bl (!decide (a = b))) H) : rNe (.str a) (.str b) H Q := ⟨rfl, by rw [show decide (V.str a = V.str b) = decide (a = b) by simp]; exact h⟩
theorem g_test (h : te σ H fun x H' => ∃ k, x = .bl k ∧ QB k H') : tTest te σ H QB := h
theorem g_tB (h : te σ H fun x H' => ∃ k, x = .bl k ∧ QB k H') : tB te σ H QB := h
theorem g_bl {b : Bool} {R : Bool → Prop} (h : R b) : ∃ k, V.bl b = V.bl k ∧ R k := ⟨b, rfl, h⟩
theorem g_and (h : tt σ H fun c H1 => if c = true then tu σ H1 QB else QB false H1) : tAnd tt tu σ H QB := h
theorem g_or (h : tt σ H fun c H1 => if c = true then QB true H1 else tu σ H1 QB) : tOr tt tu σ H QB := h
theorem g_not (h : tt σ H fun c H1 => QB (!c) H1) : tNot tt σ H QB := h
theorem g_andV (h : ta σ H fun x H1 => ∃ c, x = .bl c ∧ if c = true then tb σ H1 Q else Q (.bl false) H1) : tAndV ta tb σ H Q := h
theorem g_orV (h : ta σ H fun x H1 => ∃ c, x = .bl c ∧ if c = true then Q (.bl true) H1 else tb σ H1 Q) : tOrV ta tb σ H Q := h
theorem g_notV (h : ta σ H fun x H1 => ∃ c, x = .bl c ∧ Q (.bl (!c)) H1) : tNotV ta σ H Q := h
theorem g_ifE (h : tt σ H fun c H1 => if c = true then ta σ H1 Q else tb σ H1 Q) : tIf tt ta tb σ H Q := h
theorem g_ifS (h : tt σ H fun b H1 => if b = true then t D σ H1 else u D σ H1) : tIfS tt t u D σ H := h
theorem g_eqB {a b : Bool} (h : Q (.bl (decide (a = b))) H) : rEq (.bl a) (.bl b) H Q := ⟨rfl, by rw [show decide (V.bl a = V.bl b) = decide (a = b) by simp]; exact h⟩
theorem g_neB {a b : Bool} (h : Q (.bl (!decide (a = b))) H) : rNe (.bl a) (.bl b) H Q := ⟨rfl, by rw [show decide (V.bl a = V.bl b) = decide (a = b) by simp]; exact h⟩
theorem g_par {a b : Nat} (h : tp σ H fun vs H1 => ∃ v w, vs = [v, w] ∧ D.nx ((σ.set a (some v)).set b (some w)) H1) : tPar a b tp D σ H := h
theorem g_par3 {a b c : Nat} (h : tp σ H fun vs H1 => ∃ u v w, vs = [u, v, w] ∧ D.nx (((σ.set a (some u)).set b (some v)).set c (some w)) H1) : tPar3 a b c tp D σ H := h
theorem g_two {R : V → V → Prop} (h : R x y) : ∃ v w, [x, y] = [v, w] ∧ R v w := ⟨x, y, rfl, h⟩
theorem g_three {z : V} {R : V → V → V → Prop} (h : R x y z) : ∃ u v w, [x, y, z] = [u, v, w] ∧ R u v w := ⟨x, y, z, rfl, h⟩
theorem g_chain {r r' : R2} {tc : TE} (h : ta σ H fun x H1 => tb σ H1 fun y H2 => r x y H2 fun z H3 => ∃ k, z = .bl k ∧ (if k = true then tc σ H3 fun w' H4 => r' y w' H4 Q else Q (.bl false) H3)) : tChain r r' ta tb tc σ H Q := h
theorem g_gnil (h : QS σ H) : gNil [] σ H QS := ⟨rfl, h⟩
theorem g_gcons {g : TG} {gs : TGs} {r : List V} (h : g v σ H fun σ' H' => gs r σ' H' QS) : gCons g gs (v :: r) σ H QS := ⟨v, r, rfl, h⟩
theorem g_gtup {gs : TGs} {a : Addr} {xs : List V} (hs : SqT K H a xs) (hl : xs.length = n) (h : gs xs σ H QS) : gTup K n gs (.ref a) σ H QS := ⟨a, xs, rfl, hs, hl, h⟩
def FldV (K : PySem.W.Frag) (f : Str) (x : V) (H1 : Hp) (Q : VK) : Prop := ∃ a C dx fs v, x = .ref a ∧ H1 a = some (.ins C dx fs) ∧ Cls K C ∧ NoAttr K C f ∧ fs.lookup f = some v ∧ Q v H1
theorem g_fld {f : Str} (h : te σ H fun x H1 => FldV K f x H1 Q) : tFld K te f σ H Q := h
theorem g_fldV {f : Str} {a C dx : Addr} {fs : List (Str × V)} (h1 : H a = some (.ins C dx fs)) (h2 : Cls K C) (h3 : NoAttr K C f) (h4 : fs.lookup f = some v) (h : Q v H) : FldV K f (.ref a) H Q := ⟨a, C, dx, fs, v, rfl, h1, h2, h3, h4, h⟩
def FldS (K : PySem.W.Frag) (f : Str) (y x : V) (H2 : Hp) (QH : Hp → Prop) : Prop := ∃ a C dx fs, x = .ref a ∧ H2 a = some (.ins C dx fs) ∧ Cls K C ∧ NoAttr K C f ∧ fs.length < 1000 ∧ QH (upd H2 a (.ins C dx (putF f y fs)))
theorem g_sfld {f : Str} (h : tb σ H fun y H1 => ta σ H1 fun x H2 => FldS K f y x H2 fun H3 => D.nx σ H3) : sFld K ta tb f D σ H := h
theorem g_sfldV {f : Str} {a C dx : Addr} {fs : List (Str × V)} {QH : Hp → Prop} (h1 : H a = some (.ins C dx fs)) (h2 : Cls K C) (h3 : NoAttr K C f) (h4 : fs.length < 1000) (h : ∀ H', (∀ b, b ≠ a → H' b = H b) → H' a = some (.ins C dx (putF f v fs)) → QH H') : FldS K f v (.ref a) H QH :=
  ⟨a, C, dx, fs, rfl, h1, h2, h3, h4, h _ (fun _ hb => upd_ne hb) upd_same⟩
theorem g_nt {A B : Prop} (h : A) : if (!false) = true then A else B := by
  rw [if_pos (by rfl)]
  exact h
theorem g_nf {A B : Prop} (h : B) : if (!true) = true then A else B := by
  rw [if_neg (by decide)]
  exact h
theorem g_isN {R : Prop} (h : R) : (V.non : V) = .non ∧ R := ⟨rfl, h⟩
theorem g_cut (Mid : L2.St → Hp → Prop) (h : t { D with nx := Mid } σ H) (k : ∀ σ' H', Mid σ' H' → u D σ' H') : Evl.tCut t u D σ H := ⟨Mid, h, k⟩
theorem g_while {c : TT} (W : Nat → L2.St → Hp → Prop) {m0 : Nat} (h0 : W m0 σ H) (h : ∀ m σ H, W m σ H → c σ H fun b H1 => if b = true then t { D with nx := fun σ' H' => ∃ m', m' < m ∧ W m' σ' H', ct := fun σ' H' => ∃ m', m' < m ∧ W m' σ' H', bk := D.nx } σ H1 else D.nx σ H1)
    (mono : ∀ σ H Q Q', (∀ b H1, Q b H1 → Q' b H1) → c σ H Q → c σ H Q') : tWhile c t D σ H :=
  ⟨W, ⟨m0, h0⟩, fun m σ H w => mono σ H _ _ (fun b H1 q => by
    cases b with
    | true => exact ⟨_, fun _ _ z => z, q⟩
    | false => exact q) (h m σ H w)⟩
theorem g_ifF {c : TT} (hb : ∀ QB : Bool → Hp → Prop, QB false H → c σ H QB) (h : u D σ H) : tIfS c t u D σ H := hb _ (iteF h)
theorem g_ifT {c : TT} (hb : ∀ QB : Bool → Hp → Prop, QB true H → c σ H QB) (h : t D σ H) : tIfS c t u D σ H := hb _ (iteT h)
theorem g_ecut (v : V) {tx : TE} (h : ∀ Q' : VK, Q' v H → tx σ H Q') (k : Q v H) : tx σ H Q := h _ k
theorem g_next (h : D.nx σ H) : tNext D σ H := h
theorem g_ret (h : te σ H D.rt) : tRet te D σ H := h
theorem g_drop (h : te σ H fun _ H1 => D.nx σ H1) : tDrop te D σ H := h
theorem g_nil (h : QA [] H) : tNil σ H QA := h
theorem g_cons (h : te σ H fun x H1 => tp σ H1 fun xs H2 => QA (x :: xs) H2) : tCons te tp σ H QA := h
theorem g_call {sp : Sp} {dvs : List V} {E : XK} (h : tp σ H fun vs H1 => sp (vs ++ dvs) H1 Q E) : tCall sp dvs E tp σ H Q := h
theorem g_cb {r : List V → Hp → VK → Prop} (h : tp σ H fun vs H1 => r vs H1 Q) : tCB r tp σ H Q := h
theorem g_bm {T : String} {r : V → List V → Hp → VK → Prop} (h : ta σ H fun x H1 => tyV K T x H1 ∧ tp σ H1 fun xs H2 => r x xs H2 Q) : tBM K T r ta tp σ H Q := h
theorem g_ixL {p : Addr} {xs : List V} (hs : SqL K H p xs) (ha : atI xs i = some v) (h : Q v H) : rIxL K (.ref p) (.int i) H Q := ⟨p, xs, i, v, rfl, rfl, hs, ha, h⟩
theorem g_ixT {p : Addr} {xs : List V} (hs : SqT K H p xs) (ha : atI xs i = some v) (h : Q v H) : rIxT K (.ref p) (.int i) H Q := ⟨p, xs, i, v, rfl, rfl, hs, ha, h⟩
theorem g_lst (h : tp σ H fun xs H1 => NewL xs H1 Q) : tLst tp σ H Q := h
theorem g_tup (h : tp σ H fun xs H1 => NewT xs H1 Q) : tTup tp σ H Q := h
theorem g_setL {p : Addr} {xs : List V} {j : Nat} {QH : Hp → Prop} (hp : H p = some (.lst xs)) (hj : ixN xs.length i = some j) (h : ∀ H', (∀ b, b ≠ p → H' b = H b) → H' p = some (.lst (xs.set j v)) → QH H') : rSetL (.ref p) (.int i) v H QH :=
  ⟨p, xs, i, j, rfl, rfl, hp, hj, h _ (fun _ hb => upd_ne hb) upd_same⟩
/-- a new list, a new tuple: the heap that follows is known by what it keeps -/
theorem g_new {xs : List V} (h1 : xs.length ≤ sizeLine) (h : ∀ p H', H p = none → Ex H H' → H' p = some (.lst xs) → (∀ b, b ≠ p → H' b = H b) → Q (.ref p) H') : NewL xs H Q :=
  ⟨h1, fun p hp => h p _ hp (Evl.Ex.new hp) upd_same fun _ hb => upd_ne hb⟩
theorem g_newT {xs : List V} (h1 : xs.length ≤ sizeLine) (h : ∀ p H', H p = none → Ex H H' → H' p = some (.tup xs) → (∀ b, b ≠ p → H' b = H b) → Q (.ref p) H') : NewT xs H Q :=
  ⟨h1, fun p hp => h p _ hp (Evl.Ex.new hp) upd_same fun _ hb => upd_ne hb⟩
theorem g_popAt {l : Addr} {xs : List V} {k : Nat} (hl : H l = some (.lst xs)) (hi : -(2 ^ 63) ≤ i ∧ i < 2 ^ 63) (hk : seqIndex? i xs.length = some k) (hx : xs[k]? = some y) (h : ∀ H', (∀ b, b ≠ l → H' b = H b) → H' l = some (.lst (xs.eraseIdx k)) → Q y H') : rPopAt (.ref l) [.int i] H Q :=
  ⟨l, xs, i, k, y, rfl, rfl, hl, hi.1, hi.2, hk, hx, h _ (fun _ hb => upd_ne hb) upd_same⟩
theorem g_app {l : Addr} {xs : List V} (hl : H l = some (.lst xs)) (hz : xs.length < sizeLine) (h : ∀ H', (∀ b, b ≠ l → H' b = H b) → H' l = some (.lst (xs ++ [y])) → Q .non H') : rAppend (.ref l) [y] H Q :=
  ⟨l, xs, y, rfl, rfl, hl, hz, h _ (fun _ hb => upd_ne hb) upd_same⟩
theorem g_int1 (h : Q (.int i) H) : (∃ i', ([V.int i] : List V) = [.int i'] ∧ Q (.int i') H) ∨ ∃ k, ([V.int i] : List V) = [.bl k] ∧ Q (.int (if k then 1 else 0)) H := .inl ⟨i, rfl, h⟩
end
/-- but for p the heap is as it was -/
abbrev But (p : Addr) (H H' : Hp) : Prop := ∀ b, b ≠ p → H' b = H b
theorem ex_but {G H H' : Hp} {p : Addr} (e : Ex G H) (g : G p = none) (b : But p H H') : Ex G H' := fun q o h => by
  rw [b q (ne_of_none h g)]
  exact e q o h
theorem ne_nil {H : Hp} {a p : Addr} {o : HO} (h : H a = some o) (h' : H p = none) : a ≠ p := ne_of_none h h'
/-! ### data: lists of ints -/
theorem dp_ints {K : PySem.W.Frag} {H : Hp} : ∀ ns : List Int, DpAll K H (ns.map V.int) (ns.map PyData.int)
  | [] => .nil
  | n :: ns => .cons (.int n) (dp_ints ns)
theorem dp_il {K : PySem.W.Frag} {H : Hp} {a : Addr} {ns : List Int} (h : SqL K H a (ns.map V.int)) : Dp K H (.ref a) (.list (ns.map PyData.int)) := .lst h (dp_ints ns)
theorem ints_lay : ∀ ns : List Int, PyData.canLayAll0 (ns.map PyData.int) = true
  | [] => by simp [PyData.canLayAll0]
  | n :: ns => by simp [PyData.canLayAll0, PyData.canLay0, ints_lay ns]
theorem ints_depth : ∀ ns : List Int, PyData.depthAll (ns.map PyData.int) ≤ 1
  | [] => by simp [PyData.depthAll]
  | n :: ns => by
    have h := ints_depth ns
    simp only [List.map_cons, PyData.depthAll, PyData.depth]
    omega
theorem ints_shaped (ns : List Int) : SeqAt.shaped (.list (ns.map PyData.int)) = true := by
  have h := ints_depth ns
  unfold SeqAt.shaped
  rw [Bool.and_eq_true]
  refine ⟨by simp only [PyData.canLay0]; exact ints_lay ns, decide_eq_true ?_⟩
  simp only [PyData.depth]
  omega
theorem eqvAll_ints : ∀ ns ms : List Int, PyData.eqvAll (ns.map PyData.int) (ms.map PyData.int) = decide (ns = ms)
  | [], [] => by simp [PyData.eqvAll]
  | [], m :: ms => by simp [PyData.eqvAll]
  | n :: ns, [] => by simp [PyData.eqvAll]
  | n :: ns, m :: ms => by
    have e := eqvAll_ints ns ms
    simp only [List.map_cons, PyData.eqvAll, PyData.eqv, e]
    by_cases h1 : n = m <;> by_cases h2 : ns = ms <;> simp [h1, h2]
theorem eqv_ints (ns ms : List Int) : PyData.eqv (.list (ns.map PyData.int)) (.list (ms.map PyData.int)) = decide (ns = ms) := by
  simp only [PyData.eqv]
  exact eqvAll_ints ns ms
/-! ### kinds of values -/
def Seq (K : PySem.W.Frag) (H : Hp) (a : Addr) (xs : List V) : Prop := SqL K H a xs ∨ SqT K H a xs
/-- no list, no tuple -/
def NSeq (H : Hp) (v : V) : Prop := v = .non ∨ (∃ b, v = .bl b) ∨ (∃ i, v = .int i) ∨ (∃ s, v = .str s) ∨ ∃ a kvs, v = .ref a ∧ H a = some (.dK kvs)
def Plain (K : PySem.W.Frag) (H : Hp) (v : V) : Prop := NSeq H v ∨ ∃ a xs, v = .ref a ∧ Seq K H a xs
theorem Seq.ex {K : PySem.W.Frag} {H H' : Hp} {a : Addr} {xs : List V} (s : Seq K H a xs) (e : Ex H H') : Seq K H' a xs := s.imp (ex_l e) (ex_t e)
theorem NSeq.ex {H H' : Hp} {v : V} (s : NSeq H v) (e : Ex H H') : NSeq H' v := by
  rcases s with h | h | h | h | ⟨a, kvs, h1, h2⟩
  · exact .inl h
  · exact .inr (.inl h)
  · exact .inr (.inr (.inl h))
  · exact .inr (.inr (.inr (.inl h)))
  · exact .inr (.inr (.inr (.inr ⟨a, kvs, h1, e _ _ h2⟩)))
theorem Plain.ex {K : PySem.W.Frag} {H H' : Hp} {v : V} (s : Plain K H v) (e : Ex H H') : Plain K H' v := by
  rcases s with h | ⟨a, xs, h1, h2⟩
  · exact .inl (h.ex e)
  · exact .inr ⟨a, xs, h1, h2.ex e⟩
theorem ty_l {K : PySem.W.Frag} {H : Hp} {a : Addr} {xs : List V} (h : SqL K H a xs) : TyX K H (.ref a) (.type "list") := by
  rcases h with (h | ⟨o, h⟩) | ⟨o, its, n, h, hc, _⟩
  · exact .base (.lst h)
  · exact .base (.frz h)
  · exact .kList h hc
theorem ty_t {K : PySem.W.Frag} {H : Hp} {a : Addr} {xs : List V} (h : SqT K H a xs) : TyX K H (.ref a) (.type "tuple") := by
  rcases h with (h | ⟨o, h⟩) | ⟨o, its, n, h, hc, _⟩
  · exact .base (.tup h)
  · exact .fTuple h
  · exact .kTuple h hc
theorem NSeq.ty {K : PySem.W.Frag} {H : Hp} {v : V} (s : NSeq H v) : ∃ T, T ∈ ["NoneType", "bool", "int", "str", "dict"] ∧ TyX K H v (.type T) := by
  rcases s with rfl | ⟨b, rfl⟩ | ⟨i, rfl⟩ | ⟨x, rfl⟩ | ⟨a, kvs, rfl, h⟩
  · exact ⟨_, by simp, .base .non⟩
  · exact ⟨_, by simp, .base (.bl b)⟩
  · exact ⟨_, by simp, .base (.int i)⟩
  · exact ⟨_, by simp, .base (.str x)⟩
  · exact ⟨_, by simp, .base (.dK h)⟩
theorem kit_no : ∀ T ∈ ["NoneType", "bool", "int", "str", "dict"], kitB T "list" = some false ∧ kitB T "tuple" = some false := by decide +kernel
section
variable {K : PySem.W.Frag} {H : Hp} {Q : VK} {v : V}
theorem g_isi {T T' : String} {b : Bool} (ty : TyX K H v (.type T)) (e : kitB T T' = some b) (h : Q (.bl b) H) : rIsi K [v, .ty T'] H Q := ⟨v, .ty T', .type T, .type T', b, rfl, .ty T', ty, kit_ty e, h⟩
theorem g_isiLT {tp : Addr} {T : String} {b : Bool} (ht : H tp = some (.tup [.ty "list", .ty "tuple"])) (ty : TyX K H v (.type T)) (e : PySem.W.kitAny K (.type T) [.type "list", .type "tuple"] = some b) (h : Q (.bl b) H) : rIsiT K [v, .ref tp] H Q :=
  ⟨v, tp, _, .type T, _, b, rfl, ht, .cons (.ty "list") (.cons (.ty "tuple") .nil), ty, e, h⟩
theorem kl_l : PySem.W.kitAny K (.type "list") [.type "list", .type "tuple"] = some true := kitAny_cons (b := true) (kit_ty (by decide +kernel)) (by intro h; cases h) (fun _ => rfl)
theorem kl_t : PySem.W.kitAny K (.type "tuple") [.type "list", .type "tuple"] = some true := kitAny_cons (b := false) (kit_ty (by decide +kernel)) (fun _ => kitAny_cons (b := true) (kit_ty (by decide +kernel)) (by intro h; cases h) (fun _ => rfl)) (by intro h; cases h)
theorem kl_n {T : String} (h : T ∈ ["NoneType", "bool", "int", "str", "dict"]) : PySem.W.kitAny K (.type T) [.type "list", .type "tuple"] = some false :=
  kitAny_cons (b := false) (kit_ty (kit_no T h).1) (fun _ => kitAny_cons (b := false) (kit_ty (kit_no T h).2) (fun _ => kitAny_nil) (by intro h; cases h)) (by intro h; cases h)
theorem g_isiSeq {tp a : Addr} {xs : List V} (ht : H tp = some (.tup [.ty "list", .ty "tuple"])) (hs : Seq K H a xs) (h : Q (.bl true) H) : rIsiT K [.ref a, .ref tp] H Q := by
  rcases hs with hs | hs
  · exact g_isiLT ht (ty_l hs) kl_l h
  · exact g_isiLT ht (ty_t hs) kl_t h
theorem g_isiNo {tp : Addr} (ht : H tp = some (.tup [.ty "list", .ty "tuple"])) (hs : NSeq H v) (h : Q (.bl false) H) : rIsiT K [v, .ref tp] H Q := by
  obtain ⟨T, hT, ty⟩ := hs.ty (K := K)
  exact g_isiLT ht ty (kl_n hT) h
end
section
variable {K : PySem.W.Frag} {H : Hp} {Q : VK} {a : Addr} {xs : List V}
def nLen (K : PySem.W.Frag) : List V → Hp → VK → Prop := fun ys H Q => ∃ x n, ys = [x] ∧ LenV K x H n ∧ Q (.int (n : Nat)) H
def nInt : List V → Hp → VK → Prop := fun xs H Q => (∃ i, xs = [.int i] ∧ Q (.int i) H) ∨ ∃ k, xs = [.bl k] ∧ Q (.int (if k then 1 else 0)) H
def nMax : List V → Hp → VK → Prop := fun xs H Q => ∃ i j, xs = [.int i, .int j] ∧ Q (.int (if j > i then j else i)) H
def nMin : List V → Hp → VK → Prop := fun xs H Q => ∃ i j, xs = [.int i, .int j] ∧ Q (.int (if j < i then j else i)) H
def nStr : List V → Hp → VK → Prop := fun xs H Q => ∃ i : Int, xs = [.int i] ∧ i.natAbs.log2 < 1920 ∧ Q (.str (Str.ofString (toString i))) H
def nList (K : PySem.W.Frag) : List V → Hp → VK → Prop := fun xs H Q => ∃ p ys, xs = [.ref p] ∧ (SqL K H p ys ∨ SqT K H p ys) ∧ ∀ l, H l = none → Q (.ref l) (upd H l (.lst ys))
def nTup (K : PySem.W.Frag) : List V → Hp → VK → Prop := fun xs H Q => ∃ p ys, xs = [.ref p] ∧ ((SqL K H p ys ∧ ∀ l, H l = none → Q (.ref l) (upd H l (.tup ys))) ∨ (SqT K H p ys ∧ Q (.ref p) H))
def nAdd : R2 := fun x y H Q => ∃ i j, x = .str i ∧ y = .str j ∧ i.length + j.length ≤ sizeLine ∧ Q (.str (i ++ j)) H
theorem cLen {X : Cx} : CallR X (.builtin "len") (nLen X.K) := call_len
theorem cInt {X : Cx} : CallR X (.type "int") nInt := call_int1
theorem cMax {X : Cx} (hc : X.calm = true) : CallR X (.builtin "max") nMax := call_max2 hc
theorem cMin {X : Cx} (hc : X.calm = true) : CallR X (.builtin "min") nMin := call_min2 hc
theorem cStr {X : Cx} : CallR X (.type "str") nStr := call_str_int
theorem cList {X : Cx} : CallR X (.type "list") (nList X.K) := call_list_of
theorem cTup {X : Cx} : CallR X (.type "tuple") (nTup X.K) := call_tuple_of
theorem opAddS {X : Cx} : OpR X (binaryOp .Add) nAdd := op_add_str
theorem g_ixQ {i : Int} {v : V} (hs : Seq K H a xs) (ha : atI xs i = some v) (h : Q v H) : rIx K (.ref a) (.int i) H Q :=
  hs.elim (fun hs => .inl ⟨a, xs, i, v, rfl, rfl, hs, ha, h⟩) (fun hs => .inr (.inl ⟨a, xs, i, v, rfl, rfl, hs, ha, h⟩))
theorem g_len (hs : Seq K H a xs) (h : Q (.int xs.length) H) : nLen K [.ref a] H Q :=
  ⟨.ref a, xs.length, rfl, hs.elim (fun hs => .inl ⟨_, hs, rfl⟩) (fun hs => .inr ⟨_, hs, rfl⟩), h⟩
theorem g_nint {i : Int} (h : Q (.int i) H) : nInt [.int i] H Q := .inl ⟨i, rfl, h⟩
theorem g_nintB {k : Bool} (h : Q (.int (if k then 1 else 0)) H) : nInt [.bl k] H Q := .inr ⟨k, rfl, h⟩
theorem g_max {i j : Int} (h : Q (.int (if j > i then j else i)) H) : nMax [.int i, .int j] H Q := ⟨i, j, rfl, h⟩
theorem g_min {i j : Int} (h : Q (.int (if j < i then j else i)) H) : nMin [.int i, .int j] H Q := ⟨i, j, rfl, h⟩
theorem g_str {i : Int} (hz : i.natAbs.log2 < 1920) (h : Q (.str (Str.ofString (toString i))) H) : nStr [.int i] H Q := ⟨i, rfl, hz, h⟩
theorem g_addS {i j : Str} (hz : i.length + j.length ≤ sizeLine) (h : Q (.str (i ++ j)) H) : nAdd (.str i) (.str j) H Q := ⟨i, j, rfl, rfl, hz, h⟩
theorem g_list (hs : Seq K H a xs) (h : ∀ p H', H p = none → Ex H H' → H' p = some (.lst xs) → (∀ b, b ≠ p → H' b = H b) → Q (.ref p) H') : nList K [.ref a] H Q :=
  ⟨a, xs, rfl, hs, fun p hp => h p _ hp (Evl.Ex.new hp) upd_same fun _ hb => upd_ne hb⟩
theorem g_tupL (hs : SqL K H a xs) (h : ∀ p H', H p = none → Ex H H' → H' p = some (.tup xs) → (∀ b, b ≠ p → H' b = H b) → Q (.ref p) H') : nTup K [.ref a] H Q :=
  ⟨a, xs, rfl, .inl ⟨hs, fun p hp => h p _ hp (Evl.Ex.new hp) upd_same fun _ hb => upd_ne hb⟩⟩
theorem g_tupT (hs : SqT K H a xs) (h : Q (.ref a) H) : nTup K [.ref a] H Q := ⟨a, xs, rfl, .inr ⟨hs, h⟩⟩
def QG (K : PySem.W.Frag) (n : Nat) (t : TGs) : TG := fun v σ H Q => gLst K n t v σ H Q ∨ gTup K n t v σ H Q
theorem g_gseq {n : Nat} {gs : TGs} {σ : L2.St} {QS : L2.St → Hp → Prop} (hs : Seq K H a xs) (hl : xs.length = n) (h : gs xs σ H QS) : QG K n gs (.ref a) σ H QS :=
  hs.elim (fun hs => .inl ⟨a, xs, rfl, hs, hl, h⟩) (fun hs => .inr ⟨a, xs, rfl, hs, hl, h⟩)
theorem g_in {x : V} {p : Addr} {b : Bool} (hp : Seq K H p xs) (hx : flatV x = true) (hf : xs.all flatV = true) (e : inV x xs = b) (h : Q (.bl b) H) : rIn K false x (.ref p) H Q := ⟨p, xs, rfl, hp, hx, hf, by rw [e]; exact h⟩
theorem g_nin {x : V} {p : Addr} {b : Bool} (hp : Seq K H p xs) (hx : flatV x = true) (hf : xs.all flatV = true) (e : (!inV x xs) = b) (h : Q (.bl b) H) : rIn K true x (.ref p) H Q := ⟨p, xs, rfl, hp, hx, hf, by rw [if_pos rfl, e]; exact h⟩
end
/-- a target of several names, for a list or a tuple -/
theorem pg_seq {X : Cx} {pos : Pos} {es : List Expr} {k : Nat} {t : TGs} {n : Nat} (hc : X.calm = true) (h : PGs X es t)
    (hn : (assignEach es X.env).length = n := by rfl) (hst : (assignEach es X.env).findIdx? (·.1) = none := by rfl) : PG X (.Tuple es k pos) (QG X.K n t) := by
  refine ⟨fun pins s σ H v u Q I r hw => ?_⟩
  rcases hw with hw | hw
  · exact (pg_lst hc h hn hst).run pins s σ H v u Q I r hw
  · exact (pg_tup hc h hn hst).run pins s σ H v u Q I r hw
theorem sz {n : Nat} (h : n ≤ 100000) : n ≤ sizeLine := Evl.sz_of h
theorem szl {n : Nat} (h : n < 100000) : n < sizeLine := Evl.sz_lt h
end Tk
namespace Tk
open PySem PySem.Spec PyProof.Rows L2
open Evl (Ex ex_l ex_t ex_rd sq_of st_of fresh_back)
local macro_rules | `(tactic| walk_at "g") => `(tactic| (repeat (first
  | (with_reducible refine g_seq ?_) | (with_reducible refine g_asg ?_) | (with_reducible refine g_name ?_) | (with_reducible refine g_sub ?_)
  | ((with_reducible refine' g_var ?e ?_); (case e => exact rfl)) | (with_reducible refine g_c ?_) | (with_reducible refine g_op ?_) | (with_reducible refine g_un ?_) | (with_reducible refine g_U ?_)
  | (with_reducible refine g_I0 ?_) | (with_reducible refine g_eqI ?_) | (with_reducible refine g_neI ?_) | (with_reducible refine g_eqS ?_) | (with_reducible refine g_neS ?_)
  | (with_reducible refine g_test ?_) | (with_reducible refine g_tB ?_) | (with_reducible refine g_bl ?_) | (with_reducible refine g_and ?_) | (with_reducible refine g_or ?_) | (with_reducible refine g_not ?_)
  | (with_reducible refine g_andV ?_) | (with_reducible refine g_orV ?_) | (with_reducible refine g_notV ?_) | (with_reducible refine g_ifE ?_) | (with_reducible refine g_ifS ?_)
  | (with_reducible refine g_next ?_) | (with_reducible refine g_ret ?_) | (with_reducible refine g_drop ?_) | (with_reducible refine g_nil ?_) | (with_reducible refine g_cons ?_) | (with_reducible refine g_call ?_)
  | (with_reducible refine g_cb ?_) | (with_reducible refine g_bm ?_) | (with_reducible refine g_lst ?_) | (with_reducible refine g_tup ?_) | (with_reducible refine iteT ?_) | (with_reducible refine iteF ?_))))
def spDraw : Sp := fun vs H Q _ => ∃ (G : Hp) (a c : Addr) (n : Nat) (many : Int), vs = [.ref a, .int many] ∧ 1 ≤ many ∧ many ≤ 1000000 ∧ Fr G H a c n ∧ n < 1000000000 ∧
  ∀ H' (d : Int), Fr G H' a c (n + 1) → 0 ≤ d → d < many → Q (.int d) H'
structure Sx (G H : Hp) (a c : Addr) (r k m : Int) (cs : List Int) : Prop where
  ex : Ex G H
  ha : H a = some (.lst [.ref c, .int r, .int k, .int m])
  hc : H c = some (.lst (cs.map V.int))
  r0 : 0 ≤ r
  m0 : 0 ≤ m
  m9 : m < 2147483647
section
variable {P : Program} {w : World} {K : PySem.W.Frag} {mg : Str → Option Value} {base : Heap}
theorem sc_draw : FnScope ["_law_stream", "_law_many", "_law_cell", "_law_digit", "_law_mixed_here"] ["_law_stream", "_law_many"] (defScope st_w_draw) := ⟨rfl, rfl, rfl, by decide +kernel, rfl, by decide +kernel, by decide +kernel⟩
theorem ok_draw (T : Txt K mg) : Kept P w K mg base CX0 1 "_law_draw" ["_law_stream", "_law_many"] spDraw := by
  refine kept0 T.d_w_draw sc_draw (fun vs H Q E h => ?_) (fun cdv A outer s H vs Q E hr h => ?_)
  · obtain ⟨G, a, c, n, many, rfl, _⟩ := h
    rfl
  · obtain ⟨G, a, c, n, many, rfl, m1, m2, F, hn, q⟩ := h
    have ix : ∀ {pos : Pos} {k : Nat} {i : Int} {p1 p2 : Pos}, PE (cxOf CX0 P w K mg base ["_law_stream", "_law_many", "_law_cell", "_law_digit", "_law_mixed_here"] "_law_draw" (defScope st_w_draw) (He.ga K "_law_draw") cdv A outer s H E).nox (.Subscript (.Name "_law_stream" p1) (.Constant (.int i) k p2) pos) _ := fun {pos k i p1 p2} => pe_ix ix_list (pv 0) pe_int (fun _ _ => rfl)
    have hu := hu_of hr
    refine ⟨_, pss_cons (ps_asg (pe_op op_add ix pe_int) (pg_sub (pv 0) pe_int set_list))
      (Evl.pss_cut (ps_while PassesOwn.never (PW.pt (pw_and (pt_cmpR op_eq ix pe_int (nomark _)) (pw_and1 (pt_cmpR (op_neD hr.units) ix (pe_lst pa_nil) (nomark _)))))
        (pss_cons (ps_set (i := 2) sc_draw.nd rfl (.inl rfl) (pe_bm PySem.F.plainAttrs_list PySem.F.slot_list_pop PySem.F.type_list_pop mt_popAt ix (pa_cons pe_int pa_nil)))
        (pss_cons (ps_asg (pe_op op_mod (pe_callTy cInt (by rfl) T.f_int (by decide +kernel) (pa_cons (pe_op op_add (pe_op op_add (pe_op op_mul ix pe_int) (pv 2)) pe_int) pa_nil)) pe_int) (pg_sub (pv 0) pe_int set_list))
        (pss_one (ps_asg (pe_ifExp (pt_cmpR op_ge (pv 2) (pe_op op_pow pe_int pe_int) (nomark _)) (pv 2) pe_int) (pg_sub (pv 0) pe_int set_list))))))
      (pss_cons (ps_if (pt_cmpR op_gt ix pe_int (nomark _))
        (pss_cons (ps_set (i := 3) sc_draw.nd rfl (.inl rfl) (pe_op op_modN (pe_callTy cInt (by rfl) T.f_int (by decide +kernel) (pa_cons ix pa_nil)) (pv 1)))
        (pss_cons (ps_asg (pe_op op_fdivN ix (pv 1)) (pg_sub (pv 0) pe_int set_list))
        (pss_one (ps_ret (pv 3))))) pss_nil)
      (pss_cons (ps_set (i := 4) sc_draw.nd rfl (.inl rfl) (pe_op op_mod (pe_callTy cInt (by rfl) T.f_int (by decide +kernel) (pa_cons (pe_op op_pow (pe_op op_add (pe_op op_add ix (pe_op op_mul pe_int ix)) pe_int) pe_int) pa_nil)) pe_int))
      (pss_one (ps_ret (pe_op op_modN (pe_op op_mod (pe_callTy cInt (by rfl) T.f_int (by decide +kernel) (pa_cons (pe_op op_pow (pe_op op_add (pe_op op_add (pe_op op_mul (pv 4) pe_int) (pe_op op_mul pe_int ix)) pe_int) pe_int) pa_nil)) pe_int) (pv 1))))))), ?_⟩
    obtain ⟨hac, r, k, m, cs, ha, hc, r0, k0, kn, m0, m9⟩ := F.st
    have ga := F.ga
    have gc := F.gc
    walk_at "g"
    refine g_ixL (sq_of ha) rfl ?_
    walk_at "g"
    refine g_setL ha rfl fun H1 b1 a1 => ?_
    have c1 : H1 c = some (.lst (cs.map V.int)) := (b1 c hac.symm).trans hc
    have e1 : Ex G H1 := ex_but F.ex ga b1
    walk_at "g"
    refine g_cut (fun σ H' => ∃ (x2 : Option V) (r m : Int) (cs : List Int), σ = [some (.ref a), some (.int many), x2, none, none] ∧ Sx G H' a c r (k + 1) m cs) ?_ ?_
    · -- the loop
      refine ⟨fun z σ H' => ∃ (x2 : Option V) (r m : Int) (cs : List Int), z = cs.length ∧ σ = [some (.ref a), some (.int many), x2, none, none] ∧ Sx G H' a c r (k + 1) m cs, ⟨_, none, r, m, cs, rfl, rfl, e1, a1, c1, r0, m0, m9⟩, ?_⟩
      rintro z σ H2 ⟨x2, r, m, cs, rfl, rfl, S2⟩
      obtain ⟨e2, a2, c2, r0, m0, m9⟩ := id S2
      walk_at "g"
      refine g_ixL (sq_of a2) rfl ?_
      walk_at "g"
      by_cases hr0 : r = 0
      · rw [decide_eq_true hr0]
        refine iteT ?_
        walk_at "g"
        refine g_ixL (sq_of a2) rfl ?_
        walk_at "g"
        refine g_new (sz (by decide)) fun p H3 np e3 hp b3 => ?_
        have a3 := e3 _ _ a2
        have c3 := e3 _ _ c2
        refine ⟨.list (cs.map .int), .list [], dp_il (K := K) (sq_of c3), .lst (sq_of hp) .nil, ints_shaped cs, ints_shaped [], ?_⟩
        rw [show PyData.eqv (.list (cs.map .int)) (.list []) = decide (cs = []) from eqv_ints cs []]
        walk_at "g"
        cases cs with
        | nil =>
          refine iteF ?_
          exact ⟨x2, r, m, [], rfl, fun q o h => e3 _ _ (e2 q o h), a3, c3, r0, m0, m9⟩
        | cons z cs =>
          refine iteT ⟨fun σ' H' => ∃ (x2 : Option V) (r m : Int), σ' = [some (.ref a), some (.int many), x2, none, none] ∧ Sx G H' a c r (k + 1) m cs, fun σ' H' ⟨x2, r, m, h1, h2⟩ => ⟨cs.length, Nat.lt_succ_self _, x2, r, m, cs, rfl, h1, h2⟩, ?_⟩
          walk_at "g"
          refine g_ixL (sq_of a3) rfl ?_
          refine ⟨.inl ⟨rfl, _, sq_of c3⟩, ?_⟩
          walk_at "g"
          refine g_popAt (k := 0) (y := .int z) c3 (by decide) ?_ rfl fun H4 b4 c4 => ?_
          · unfold seqIndex?
            rw [List.length_map, List.length_cons]
            simp only [Int.lt_irrefl, if_false, Int.le_refl, decide_true, Bool.true_and, decide_eq_true_eq, Int.toNat_zero]
            exact if_pos (by omega)
          have a4 : H4 a = some (.lst [.ref c, .int r, .int (k + 1), .int m]) := (b4 a hac).trans a3
          have e4 : Ex G H4 := ex_but (fun q o h => e3 _ _ (e2 q o h)) gc b4
          walk_at "g"
          refine g_ixL (sq_of a4) rfl ?_
          walk_at "g"
          refine g_I (.inl (by omega)) ?_
          walk_at "g"
          refine g_nint ?_
          walk_at "g"
          refine g_I (by decide) ?_
          walk_at "g"
          refine g_setL a4 rfl fun H5 b5 a5 => ?_
          have c5 : H5 c = some (.lst (cs.map V.int)) := (b5 c hac.symm).trans c4
          have e5 : Ex G H5 := ex_but e4 ga b5
          have hm : (0 : Int) ≤ (m * 8191 + z + 3) % 2147483647 ∧ (m * 8191 + z + 3) % 2147483647 < 2147483647 := ⟨Int.emod_nonneg _ (by decide), Int.emod_lt_of_pos _ (by decide)⟩
          generalize (m * 8191 + z + 3) % 2147483647 = m' at a5 hm
          walk_at "g"
          refine g_I (by unfold CPow; decide) ?_
          walk_at "g"
          by_cases hz : (10 : Int) ^ (18 : Int).toNat ≤ z
          · rw [decide_eq_true hz]
            refine iteT ?_
            walk_at "g"
            refine g_setL a5 rfl fun H6 b6 a6 => ?_
            refine ⟨some (.int z), z, m', rfl, ex_but e5 ga b6, a6, (b6 c hac.symm).trans c5, Int.le_trans (by decide) hz, hm.1, hm.2⟩
          · rw [decide_eq_false hz]
            refine iteF ?_
            walk_at "g"
            refine g_setL a5 rfl fun H6 b6 a6 => ?_
            refine ⟨some (.int z), 0, m', rfl, ex_but e5 ga b6, a6, (b6 c hac.symm).trans c5, Int.le_refl _, hm.1, hm.2⟩
      · rw [decide_eq_false hr0]
        refine iteF ?_
        walk_at "g"
        exact ⟨x2, r, m, cs, rfl, S2⟩
    · rintro σ H2 ⟨x2, r, m, cs, rfl, e2, a2, c2, r0, m0, m9⟩
      have fin : ∀ {H' : Hp} {r : Int}, Ex G H' → H' a = some (.lst [.ref c, .int r, .int (k + 1), .int m]) → H' c = some (.lst (cs.map V.int)) → 0 ≤ r → Fr G H' a c (n + 1) := fun e a' c' r' =>
        ⟨e, ga, gc, hac, _, _, _, _, a', c', r', by omega, by omega, m0, m9⟩
      walk_at "g"
      refine g_ixL (sq_of a2) rfl ?_
      walk_at "g"
      by_cases hr0 : (0 : Int) < r
      · rw [decide_eq_true hr0]
        refine iteT ?_
        walk_at "g"
        refine g_ixL (sq_of a2) rfl ?_
        walk_at "g"
        refine g_nint ?_
        walk_at "g"
        refine g_I (by omega) ?_
        walk_at "g"
        refine g_ixL (sq_of a2) rfl ?_
        walk_at "g"
        refine g_I ⟨by omega, by omega⟩ ?_
        walk_at "g"
        refine g_setL a2 rfl fun H6 b6 a6 => ?_
        walk_at "g"
        have hd : r.fmod many = r % many := Int.fmod_eq_emod_of_nonneg _ (by omega)
        refine q H6 (r.fmod many) (fin (ex_but e2 ga b6) a6 ((b6 c hac.symm).trans c2) ?_) ?_ ?_
        · exact Int.fdiv_nonneg r0 (by omega)
        · rw [hd]
          exact Int.emod_nonneg _ (by omega)
        · rw [hd]
          exact Int.emod_lt_of_pos _ (by omega)
      · rw [decide_eq_false hr0]
        refine iteF ?_
        walk_at "g"
        refine g_ixL (sq_of a2) rfl ?_
        walk_at "g"
        refine g_ixL (sq_of a2) rfl ?_
        walk_at "g"
        refine g_I (.inl (by decide)) ?_
        walk_at "g"
        refine g_I ⟨by decide, by decide, ?_⟩ ?_
        · omega
        walk_at "g"
        refine g_nint ?_
        walk_at "g"
        refine g_I (by decide) ?_
        have hm : ∀ y : Int, (0 : Int) ≤ y % 2147483629 ∧ y % 2147483629 < 2147483629 := fun y => ⟨Int.emod_nonneg _ (by decide), Int.emod_lt_of_pos _ (by decide)⟩
        generalize ((m + 7919 * (k + 1) + 104729) ^ (5 : Int).toNat) = y
        have hy := hm y
        generalize y % 2147483629 = z at hy
        walk_at "g"
        refine g_I (.inl (by omega)) ?_
        walk_at "g"
        refine g_ixL (sq_of a2) rfl ?_
        walk_at "g"
        refine g_I (.inl (by decide)) ?_
        walk_at "g"
        refine g_I ⟨by decide, by decide, ?_⟩ ?_
        · omega
        walk_at "g"
        refine g_nint ?_
        walk_at "g"
        refine g_I (by decide) ?_
        walk_at "g"
        refine g_I (by omega) ?_
        have hd : ∀ y : Int, y.fmod many = y % many := fun y => Int.fmod_eq_emod_of_nonneg _ (by omega)
        rw [hd]
        exact q H2 _ (fin e2 a2 c2 r0) (Int.emod_nonneg _ (by omega)) (Int.emod_lt_of_pos _ (by omega))
end
end Tk
namespace Tk
open PySem PySem.Spec PyProof.Rows L2
open Evl (Ex ex_l ex_t ex_rd sq_of st_of fresh_back)
local macro_rules | `(tactic| walk_at "g") => `(tactic| (repeat (first
  | (with_reducible refine g_seq ?_) | (with_reducible refine g_asg ?_) | (with_reducible refine g_name ?_) | (with_reducible refine g_sub ?_)
  | ((with_reducible refine' g_var ?e ?_); (case e => exact rfl)) | (with_reducible refine g_c ?_) | (with_reducible refine g_op ?_) | (with_reducible refine g_un ?_) | (with_reducible refine g_U ?_)
  | (with_reducible refine g_I0 ?_) | (with_reducible refine g_eqI ?_) | (with_reducible refine g_neI ?_) | (with_reducible refine g_eqS ?_) | (with_reducible refine g_neS ?_) | (with_reducible refine g_eqB ?_) | (with_reducible refine g_neB ?_)
  | (with_reducible refine g_test ?_) | (with_reducible refine g_tB ?_) | (with_reducible refine g_bl ?_) | (with_reducible refine g_and ?_) | (with_reducible refine g_or ?_) | (with_reducible refine g_not ?_)
  | (with_reducible refine g_andV ?_) | (with_reducible refine g_orV ?_) | (with_reducible refine g_notV ?_) | (with_reducible refine g_ifE ?_) | (with_reducible refine g_ifS ?_)
  | (with_reducible refine g_next ?_) | (with_reducible refine g_ret ?_) | (with_reducible refine g_drop ?_) | (with_reducible refine g_nil ?_) | (with_reducible refine g_cons ?_) | (with_reducible refine g_call ?_)
  | (with_reducible refine g_cb ?_) | (with_reducible refine g_bm ?_) | (with_reducible refine g_lst ?_) | (with_reducible refine g_tup ?_) | (with_reducible refine iteT ?_) | (with_reducible refine iteF ?_) | (with_reducible refine g_nt ?_) | (with_reducible refine g_nf ?_)
  | (with_reducible refine g_par ?_) | (with_reducible refine g_par3 ?_) | (with_reducible refine g_two ?_) | (with_reducible refine g_three ?_) | (with_reducible refine g_ckw ?_) | (with_reducible refine g_yes ?_) | (with_reducible refine g_chain ?_) | (with_reducible refine g_gnil ?_) | (with_reducible refine g_gcons ?_) | (with_reducible refine g_fld ?_) | (with_reducible refine g_sfld ?_) | (with_reducible refine g_isN ?_) | (with_reducible refine g_nint ?_) | (with_reducible refine g_nintB ?_) | (with_reducible refine g_max ?_) | (with_reducible refine g_min ?_))))
local macro_rules | `(tactic| walk_at "k") => `(tactic| (repeat (first
  | (with_reducible refine g_seq ?_) | (with_reducible refine g_asg ?_) | (with_reducible refine g_name ?_) | (with_reducible refine g_sub ?_)
  | ((with_reducible refine' g_var ?e ?_); (case e => exact rfl)) | (with_reducible refine g_c ?_) | (with_reducible refine g_op ?_) | (with_reducible refine g_un ?_) | (with_reducible refine g_U ?_)
  | (with_reducible refine g_I0 ?_) | (with_reducible refine g_eqI ?_) | (with_reducible refine g_neI ?_) | (with_reducible refine g_eqS ?_) | (with_reducible refine g_neS ?_) | (with_reducible refine g_eqB ?_) | (with_reducible refine g_neB ?_)
  | (with_reducible refine g_test ?_) | (with_reducible refine g_tB ?_) | (with_reducible refine g_bl ?_) | (with_reducible refine g_and ?_) | (with_reducible refine g_or ?_) | (with_reducible refine g_not ?_)
  | (with_reducible refine g_andV ?_) | (with_reducible refine g_orV ?_) | (with_reducible refine g_notV ?_) | (with_reducible refine g_ifE ?_)
  | (with_reducible refine g_next ?_) | (with_reducible refine g_ret ?_) | (with_reducible refine g_drop ?_) | (with_reducible refine g_nil ?_) | (with_reducible refine g_cons ?_) | (with_reducible refine g_call ?_)
  | (with_reducible refine g_cb ?_) | (with_reducible refine g_bm ?_) | (with_reducible refine g_lst ?_) | (with_reducible refine g_tup ?_) | (with_reducible refine iteT ?_) | (with_reducible refine iteF ?_) | (with_reducible refine g_nt ?_) | (with_reducible refine g_nf ?_)
  | (with_reducible refine g_par ?_) | (with_reducible refine g_par3 ?_) | (with_reducible refine g_two ?_) | (with_reducible refine g_three ?_) | (with_reducible refine g_ckw ?_) | (with_reducible refine g_yes ?_) | (with_reducible refine g_chain ?_) | (with_reducible refine g_gnil ?_) | (with_reducible refine g_gcons ?_) | (with_reducible refine g_fld ?_) | (with_reducible refine g_sfld ?_) | (with_reducible refine g_isN ?_) | (with_reducible refine g_nint ?_) | (with_reducible refine g_nintB ?_) | (with_reducible refine g_max ?_) | (with_reducible refine g_min ?_))))
/-! ### names -/
abbrev isI (v : V) : Bool := match v with
  | .int _ => true
  | _ => false
abbrev isNu (v : V) : Bool := match v with
  | .int i => decide (0 ≤ i)
  | _ => false
abbrev isHp (v : V) : Bool := match v with
  | .int i => decide (1 ≤ i ∧ i ≤ 10 ^ 18)
  | _ => false
def spIsList (K : PySem.W.Frag) : Sp := fun vs H Q _ => ∃ (v : V) (b : Bool), vs = [v] ∧ ((b = true ∧ ∃ a xs, v = .ref a ∧ Seq K H a xs) ∨ (b = false ∧ NSeq H v)) ∧ ∀ H', Ex H H' → Q (.bl b) H'
def spIsInteger (K : PySem.W.Frag) : Sp := fun vs H Q _ => ∃ v : V, vs = [v] ∧ Plain K H v ∧ Q (.bl (isI v)) H
def spIsNumber (K : PySem.W.Frag) : Sp := fun vs H Q _ => ∃ v : V, vs = [v] ∧ Plain K H v ∧ Q (.bl (isNu v)) H
def spIsHeap (K : PySem.W.Frag) : Sp := fun vs H Q _ => ∃ v : V, vs = [v] ∧ Plain K H v ∧ Q (.bl (isHp v)) H
def spShared : Sp := fun vs H Q _ => ∃ one other : Int, vs = [.int one, .int other] ∧ 1 ≤ one ∧ one ≤ 1000000 ∧ 0 ≤ other ∧ other ≤ 1000000 ∧ ∀ g : Int, 1 ≤ g → g ≤ max one other → Q (.int g) H
def spMultiple : Sp := fun vs H Q _ => ∃ one other : Int, vs = [.int one, .int other] ∧ 1 ≤ one ∧ one ≤ 1000000 ∧ 1 ≤ other ∧ other ≤ 6 ∧ ∀ r : Int, 1 ≤ r → r ≤ one * other → Q (.int r) H
section
variable {P : Program} {w : World} {K : PySem.W.Frag} {mg : Str → Option Value} {base : Heap}
theorem sc_is_list : FnScope ["thing"] ["thing"] (defScope st_is_list) := ⟨rfl, rfl, rfl, by decide +kernel, rfl, by decide +kernel, by decide +kernel⟩
theorem ok_is_list (T : Txt K mg) : Kept P w K mg base CX0 1 "is_list" ["thing"] (spIsList K) := by
  refine kept0 T.d_is_list sc_is_list (fun vs H Q E h => ?_) (fun cdv A outer s H vs Q E hr h => ?_)
  · obtain ⟨v, b, rfl, _⟩ := h
    rfl
  · obtain ⟨v, b, rfl, hv, q⟩ := h
    refine ⟨_, (pss_one (ps_ret (pe_callB call_isiT (by rfl) T.f_isinstance (by decide +kernel) (pa_cons (pv 0) (pa_cons (pe_tup (pa_cons (pe_bltn (v := .ty "list") (by rfl) T.f_list (by decide +kernel) rfl) (pa_cons (pe_bltn (v := .ty "tuple") (by rfl) T.f_tuple (by decide +kernel) rfl) pa_nil))) pa_nil))))), ?_⟩
    walk_at "g"
    refine g_newT (sz (by decide)) fun p H1 np e1 hp b1 => ?_
    rcases hv with ⟨rfl, a, xs, rfl, hs⟩ | ⟨rfl, hs⟩
    · exact g_isiSeq hp (hs.ex e1) (q _ e1)
    · exact g_isiNo hp (hs.ex e1) (q _ e1)
theorem sc_is_integer : FnScope ["thing"] ["thing"] (defScope st_is_integer) := ⟨rfl, rfl, rfl, by decide +kernel, rfl, by decide +kernel, by decide +kernel⟩
theorem ok_is_integer (T : Txt K mg) : Kept P w K mg base CX0 1 "is_integer" ["thing"] (spIsInteger K) := by
  refine kept0 T.d_is_integer sc_is_integer (fun vs H Q E h => ?_) (fun cdv A outer s H vs Q E hr h => ?_)
  · obtain ⟨v, rfl, _⟩ := h
    rfl
  · obtain ⟨v, rfl, hv, q⟩ := h
    refine ⟨_, (pss_one (ps_ret (pe_and (pe_callB call_isi (by rfl) T.f_isinstance (by decide +kernel) (pa_cons (pv 0) (pa_cons (pe_bltn (v := .ty "int") (by rfl) T.f_int (by decide +kernel) rfl) pa_nil))) (pe_one (pe_not (pe_callB call_isi (by rfl) T.f_isinstance (by decide +kernel) (pa_cons (pv 0) (pa_cons (pe_bltn (v := .ty "bool") (by rfl) T.f_bool (by decide +kernel) rfl) pa_nil)))))))), ?_⟩
    walk_at "g"
    rcases hv with (rfl | ⟨b, rfl⟩ | ⟨i, rfl⟩ | ⟨x, rfl⟩ | ⟨a, kvs, rfl, h⟩) | ⟨a, xs, rfl, hs⟩
    · refine g_isi (.base .non) (show kitB _ _ = some false by decide +kernel) ?_
      walk_at "g"
      exact q
    · refine g_isi (.base (.bl b)) (show kitB _ _ = some true by decide +kernel) ?_
      walk_at "g"
      refine g_isi (.base (.bl b)) (show kitB _ _ = some true by decide +kernel) ?_
      walk_at "g"
      exact q
    · refine g_isi (.base (.int i)) (show kitB _ _ = some true by decide +kernel) ?_
      walk_at "g"
      refine g_isi (.base (.int i)) (show kitB _ _ = some false by decide +kernel) ?_
      walk_at "g"
      exact q
    · refine g_isi (.base (.str x)) (show kitB _ _ = some false by decide +kernel) ?_
      walk_at "g"
      exact q
    · refine g_isi (.base (.dK h)) (show kitB _ _ = some false by decide +kernel) ?_
      walk_at "g"
      exact q
    · rcases hs with hs | hs
      · refine g_isi (ty_l hs) (show kitB _ _ = some false by decide +kernel) ?_
        walk_at "g"
        exact q
      · refine g_isi (ty_t hs) (show kitB _ _ = some false by decide +kernel) ?_
        walk_at "g"
        exact q
theorem sc_is_number : FnScope ["thing"] ["thing"] (defScope st_is_number) := ⟨rfl, rfl, rfl, by decide +kernel, rfl, by decide +kernel, by decide +kernel⟩
theorem ok_is_number (T : Txt K mg) : Kept P w K mg base CX0 2 "is_number" ["thing"] (spIsNumber K) := by
  have G_is_integer := ok_is_integer (P := P) (w := w) (base := base) T
  refine kept0 T.d_is_number sc_is_number (fun vs H Q E h => ?_) (fun cdv A outer s H vs Q E hr h => ?_)
  · obtain ⟨v, rfl, _⟩ := h
    rfl
  · obtain ⟨v, rfl, hv, q⟩ := h
    refine ⟨_, (pss_one (ps_ret (pe_and (pe_c G_is_integer (hr.mono (by decide)) pass0 (pa_cons (pv 0) pa_nil)) (pe_one (pe_cmpR op_ge (pv 0) pe_int (nomark _)))))), ?_⟩
    walk_at "g"
    refine ⟨v, rfl, hv, ?_⟩
    cases v <;> first | (walk_at "g"; exact q)
theorem sc_is_heap : FnScope ["thing"] ["thing"] (defScope st_is_heap) := ⟨rfl, rfl, rfl, by decide +kernel, rfl, by decide +kernel, by decide +kernel⟩
theorem ok_is_heap (T : Txt K mg) : Kept P w K mg base CX0 2 "is_heap" ["thing"] (spIsHeap K) := by
  have G_is_integer := ok_is_integer (P := P) (w := w) (base := base) T
  refine kept0 T.d_is_heap sc_is_heap (fun vs H Q E h => ?_) (fun cdv A outer s H vs Q E hr h => ?_)
  · obtain ⟨v, rfl, _⟩ := h
    rfl
  · obtain ⟨v, rfl, hv, q⟩ := h
    refine ⟨_, (pss_one (ps_ret (pe_and (pe_c G_is_integer (hr.mono (by decide)) pass0 (pa_cons (pv 0) pa_nil)) (pe_one (pe_chain op_le op_le pe_int (pv 0) (C8.pe_gc (v := .int (10 ^ 18)) (by rfl) (let ⟨t, e⟩ := T.great; ⟨_, e, t, rfl⟩))))))), ?_⟩
    walk_at "g"
    refine ⟨v, rfl, hv, ?_⟩
    cases v with
    | int i =>
      walk_at "g"
      by_cases h1 : 1 ≤ i
      · rw [decide_eq_true h1]
        walk_at "g"
        have e : decide (i ≤ 10 ^ 18) = isHp (.int i) := by simp [isHp, h1]
        rw [e]
        exact q
      · rw [decide_eq_false h1]
        walk_at "g"
        have e : false = isHp (.int i) := by simp [isHp, h1]
        rw [e]
        exact q
    | _ =>
      walk_at "g"
      exact q
theorem sc_shared : FnScope ["one", "other"] ["one", "other"] (defScope st_shared) := ⟨rfl, rfl, rfl, by decide +kernel, rfl, by decide +kernel, by decide +kernel⟩
theorem ok_shared (T : Txt K mg) : Kept P w K mg base CX0 1 "shared" ["one", "other"] spShared := by
  refine kept0 T.d_shared sc_shared (fun vs H Q E h => ?_) (fun cdv A outer s H vs Q E hr h => ?_)
  · obtain ⟨v, b, rfl, _⟩ := h
    rfl
  · obtain ⟨x, y, rfl, h1, h2, h3, h4, q⟩ := h
    refine ⟨_, (Evl.pss_cut (ps_while PassesOwn.never (pt_cmpR op_ne (pv 1) pe_int (nomark _)) (pss_one (ps_par (i := 0) (j := 1) rfl sc_shared.nd rfl rfl (by decide) rfl rfl (pa_cons (pv 1) (pa_cons (pe_op op_mod (pv 0) (pv 1)) pa_nil)) rfl)))
      (pss_one (ps_ret (pv 0)))), ?_⟩
    refine g_cut (fun σ H' => H' = H ∧ ∃ g : Int, σ = [some (.int g), some (.int 0)] ∧ 1 ≤ g ∧ g ≤ max x y) ?_ ?_
    · refine ⟨fun m σ H' => H' = H ∧ ∃ i j : Int, m = j.toNat ∧ σ = [some (.int i), some (.int j)] ∧ 1 ≤ i ∧ i ≤ max x y ∧ 0 ≤ j ∧ j ≤ max x y, ⟨_, rfl, x, y, rfl, rfl, h1, by omega, h3, by omega⟩, ?_⟩
      rintro m σ H' ⟨rfl, i, j, rfl, rfl, a1, a2, a3, a4⟩
      walk_at "g"
      by_cases hj : j = 0
      · subst hj
        exact ⟨rfl, i, rfl, a1, a2⟩
      · rw [decide_eq_false hj]
        refine iteT ⟨fun σ' H1 => H1 = H' ∧ σ' = [some (.int j), some (.int (i % j))], fun σ' H1 ⟨z1, z2⟩ => ⟨(i % j).toNat, ?_, z1, j, i % j, rfl, z2, by omega, a4, Int.emod_nonneg _ hj, ?_⟩, ?_⟩
        · have := Int.emod_lt_of_pos i (show 0 < j by omega)
          have := Int.emod_nonneg i hj
          omega
        · have := Int.emod_lt_of_pos i (show 0 < j by omega)
          omega
        · walk_at "g"
          refine g_I (by omega) ?_
          exact ⟨_, _, rfl, rfl, rfl⟩
    · rintro σ H' ⟨rfl, g, rfl, g1, g2⟩
      walk_at "g"
      exact q g g1 g2
theorem sc_multiple : FnScope ["one", "other"] ["one", "other"] (defScope st_multiple) := ⟨rfl, rfl, rfl, by decide +kernel, rfl, by decide +kernel, by decide +kernel⟩
theorem ok_multiple (T : Txt K mg) : Kept P w K mg base CX0 2 "multiple" ["one", "other"] spMultiple := by
  have G_shared := ok_shared (P := P) (w := w) (base := base) T
  refine kept0 T.d_multiple sc_multiple (fun vs H Q E h => ?_) (fun cdv A outer s H vs Q E hr h => ?_)
  · obtain ⟨v, b, rfl, _⟩ := h
    rfl
  · obtain ⟨x, y, rfl, h1, h2, h3, h4, q⟩ := h
    refine ⟨_, (pss_one (ps_ret (pe_op op_fdivN (pe_op op_mul (pv 0) (pv 1)) (pe_c G_shared (hr.mono (by decide)) pass0 (pa_cons (pv 0) (pa_cons (pv 1) pa_nil)))))), ?_⟩
    walk_at "g"
    refine g_I (.inl (by omega)) ?_
    walk_at "g"
    refine ⟨x, y, rfl, h1, h2, by omega, by omega, fun g g1 g2 => ?_⟩
    refine g_I ⟨by omega, by omega⟩ ?_
    have hm : max x y ≤ x * y := by
      have a1 : x * 1 ≤ x * y := Int.mul_le_mul_of_nonneg_left h3 (by omega)
      have a2 : 1 * y ≤ x * y := Int.mul_le_mul_of_nonneg_right h1 (by omega)
      omega
    have e : (x * y).fdiv g = x * y / g := Int.fdiv_eq_ediv_of_nonneg _ (by omega)
    rw [e]
    refine q _ ?_ ?_
    · exact (Int.le_ediv_iff_mul_le (by omega)).mpr (by omega)
    · exact Int.ediv_le_self _ (by omega)
end
end Tk
namespace Tk
open PySem PySem.Spec PyProof.Rows L2
open Evl (Ex ex_l ex_t ex_rd sq_of st_of fresh_back)
local macro_rules | `(tactic| walk_at "g") => `(tactic| (repeat (first
  | (with_reducible refine g_seq ?_) | (with_reducible refine g_asg ?_) | (with_reducible refine g_name ?_) | (with_reducible refine g_sub ?_)
  | ((with_reducible refine' g_var ?e ?_); (case e => exact rfl)) | (with_reducible refine g_c ?_) | (with_reducible refine g_op ?_) | (with_reducible refine g_un ?_) | (with_reducible refine g_U ?_)
  | (with_reducible refine g_I0 ?_) | (with_reducible refine g_eqI ?_) | (with_reducible refine g_neI ?_) | (with_reducible refine g_eqS ?_) | (with_reducible refine g_neS ?_) | (with_reducible refine g_eqB ?_) | (with_reducible refine g_neB ?_)
  | (with_reducible refine g_test ?_) | (with_reducible refine g_tB ?_) | (with_reducible refine g_bl ?_) | (with_reducible refine g_and ?_) | (with_reducible refine g_or ?_) | (with_reducible refine g_not ?_)
  | (with_reducible refine g_andV ?_) | (with_reducible refine g_orV ?_) | (with_reducible refine g_notV ?_) | (with_reducible refine g_ifE ?_) | (with_reducible refine g_ifS ?_)
  | (with_reducible refine g_next ?_) | (with_reducible refine g_ret ?_) | (with_reducible refine g_drop ?_) | (with_reducible refine g_nil ?_) | (with_reducible refine g_cons ?_) | (with_reducible refine g_call ?_)
  | (with_reducible refine g_cb ?_) | (with_reducible refine g_bm ?_) | (with_reducible refine g_lst ?_) | (with_reducible refine g_tup ?_) | (with_reducible refine iteT ?_) | (with_reducible refine iteF ?_) | (with_reducible refine g_nt ?_) | (with_reducible refine g_nf ?_)
  | (with_reducible refine g_par ?_) | (with_reducible refine g_par3 ?_) | (with_reducible refine g_two ?_) | (with_reducible refine g_three ?_) | (with_reducible refine g_ckw ?_) | (with_reducible refine g_yes ?_) | (with_reducible refine g_chain ?_) | (with_reducible refine g_gnil ?_) | (with_reducible refine g_gcons ?_) | (with_reducible refine g_fld ?_) | (with_reducible refine g_sfld ?_) | (with_reducible refine g_isN ?_) | (with_reducible refine g_nint ?_) | (with_reducible refine g_nintB ?_) | (with_reducible refine g_max ?_) | (with_reducible refine g_min ?_))))
local macro_rules | `(tactic| walk_at "k") => `(tactic| (repeat (first
  | (with_reducible refine g_seq ?_) | (with_reducible refine g_asg ?_) | (with_reducible refine g_name ?_) | (with_reducible refine g_sub ?_)
  | ((with_reducible refine' g_var ?e ?_); (case e => exact rfl)) | (with_reducible refine g_c ?_) | (with_reducible refine g_op ?_) | (with_reducible refine g_un ?_) | (with_reducible refine g_U ?_)
  | (with_reducible refine g_I0 ?_) | (with_reducible refine g_eqI ?_) | (with_reducible refine g_neI ?_) | (with_reducible refine g_eqS ?_) | (with_reducible refine g_neS ?_) | (with_reducible refine g_eqB ?_) | (with_reducible refine g_neB ?_)
  | (with_reducible refine g_test ?_) | (with_reducible refine g_tB ?_) | (with_reducible refine g_bl ?_) | (with_reducible refine g_and ?_) | (with_reducible refine g_or ?_) | (with_reducible refine g_not ?_)
  | (with_reducible refine g_andV ?_) | (with_reducible refine g_orV ?_) | (with_reducible refine g_notV ?_) | (with_reducible refine g_ifE ?_)
  | (with_reducible refine g_next ?_) | (with_reducible refine g_ret ?_) | (with_reducible refine g_drop ?_) | (with_reducible refine g_nil ?_) | (with_reducible refine g_cons ?_) | (with_reducible refine g_call ?_)
  | (with_reducible refine g_cb ?_) | (with_reducible refine g_bm ?_) | (with_reducible refine g_lst ?_) | (with_reducible refine g_tup ?_) | (with_reducible refine iteT ?_) | (with_reducible refine iteF ?_) | (with_reducible refine g_nt ?_) | (with_reducible refine g_nf ?_)
  | (with_reducible refine g_par ?_) | (with_reducible refine g_par3 ?_) | (with_reducible refine g_two ?_) | (with_reducible refine g_three ?_) | (with_reducible refine g_ckw ?_) | (with_reducible refine g_yes ?_) | (with_reducible refine g_chain ?_) | (with_reducible refine g_gnil ?_) | (with_reducible refine g_gcons ?_) | (with_reducible refine g_fld ?_) | (with_reducible refine g_sfld ?_) | (with_reducible refine g_isN ?_) | (with_reducible refine g_nint ?_) | (with_reducible refine g_nintB ?_) | (with_reducible refine g_max ?_) | (with_reducible refine g_min ?_))))
/-! ### errors with one field -/
def spExc (K : PySem.W.Frag) (x fld : Str) : Sp := fun vs H Q _ => ∃ (a : Addr) (v : V), vs = [.ref a, v] ∧ OexC K (He.ga K x) ∧ PySem.W.findIn K (.ref (He.ga K x)) fld = some none ∧ H a = some (exo a (He.ga K x) none) ∧
  ∀ dx, H dx = none → dx ≠ a → Q .non (upd (upd H dx (exd dx [(fld, v)])) a (exo a (He.ga K x) (some dx)))
section
variable {P : Program} {w : World} {K : PySem.W.Frag} {mg : Str → Option Value} {base : Heap}
theorem sc_BadBook_init : FnScope ["self", "thing"] ["self", "thing"] (defScope st_BadBook_init) := ⟨rfl, rfl, rfl, by decide +kernel, rfl, by decide +kernel, by decide +kernel⟩
theorem ok_BadBook_init {fd : FuncData} (F : FunD K "__init__" "BadBook.__init__" (defArgs st_BadBook_init) (defBody st_BadBook_init) (defScope st_BadBook_init) [] [] (He.ma K (He.ga K "BadBook") "__init__") fd) :
    FnOk P w K mg base CX0 1 (He.ma K (He.ga K "BadBook") "__init__") fd ["self", "thing"] (spExc K "BadBook" "thing") := by
  refine F.ok sc_BadBook_init (fun vs H Q E h => ?_) (fun cdv A outer s H vs Q E hr h => ?_)
  · obtain ⟨a, v, rfl, _⟩ := h
    rfl
  · obtain ⟨a, v, rfl, hC, hno, ha, q⟩ := h
    refine ⟨_, (pss_one (ps_ost (pv 0) (pv 1))).nox, ?_⟩
    refine ⟨_, rfl, _, rfl, a, _, rfl, hC, hno, .inl ⟨ha, fun dx h1 h2 => q dx h1 h2⟩⟩
theorem sc_BadHeap_init : FnScope ["self", "thing"] ["self", "thing"] (defScope st_BadHeap_init) := ⟨rfl, rfl, rfl, by decide +kernel, rfl, by decide +kernel, by decide +kernel⟩
theorem ok_BadHeap_init {fd : FuncData} (F : FunD K "__init__" "BadHeap.__init__" (defArgs st_BadHeap_init) (defBody st_BadHeap_init) (defScope st_BadHeap_init) [] [] (He.ma K (He.ga K "BadHeap") "__init__") fd) :
    FnOk P w K mg base CX0 1 (He.ma K (He.ga K "BadHeap") "__init__") fd ["self", "thing"] (spExc K "BadHeap" "thing") := by
  refine F.ok sc_BadHeap_init (fun vs H Q E h => ?_) (fun cdv A outer s H vs Q E hr h => ?_)
  · obtain ⟨a, v, rfl, _⟩ := h
    rfl
  · obtain ⟨a, v, rfl, hC, hno, ha, q⟩ := h
    refine ⟨_, (pss_one (ps_ost (pv 0) (pv 1))).nox, ?_⟩
    refine ⟨_, rfl, _, rfl, a, _, rfl, hC, hno, .inl ⟨ha, fun dx h1 h2 => q dx h1 h2⟩⟩
theorem sc_BadNumber_init : FnScope ["self", "thing"] ["self", "thing"] (defScope st_BadNumber_init) := ⟨rfl, rfl, rfl, by decide +kernel, rfl, by decide +kernel, by decide +kernel⟩
theorem ok_BadNumber_init {fd : FuncData} (F : FunD K "__init__" "BadNumber.__init__" (defArgs st_BadNumber_init) (defBody st_BadNumber_init) (defScope st_BadNumber_init) [] [] (He.ma K (He.ga K "BadNumber") "__init__") fd) :
    FnOk P w K mg base CX0 1 (He.ma K (He.ga K "BadNumber") "__init__") fd ["self", "thing"] (spExc K "BadNumber" "thing") := by
  refine F.ok sc_BadNumber_init (fun vs H Q E h => ?_) (fun cdv A outer s H vs Q E hr h => ?_)
  · obtain ⟨a, v, rfl, _⟩ := h
    rfl
  · obtain ⟨a, v, rfl, hC, hno, ha, q⟩ := h
    refine ⟨_, (pss_one (ps_ost (pv 0) (pv 1))).nox, ?_⟩
    refine ⟨_, rfl, _, rfl, a, _, rfl, hC, hno, .inl ⟨ha, fun dx h1 h2 => q dx h1 h2⟩⟩
theorem sc_BadOption_init : FnScope ["self", "thing"] ["self", "thing"] (defScope st_BadOption_init) := ⟨rfl, rfl, rfl, by decide +kernel, rfl, by decide +kernel, by decide +kernel⟩
theorem ok_BadOption_init {fd : FuncData} (F : FunD K "__init__" "BadOption.__init__" (defArgs st_BadOption_init) (defBody st_BadOption_init) (defScope st_BadOption_init) [] [] (He.ma K (He.ga K "BadOption") "__init__") fd) :
    FnOk P w K mg base CX0 1 (He.ma K (He.ga K "BadOption") "__init__") fd ["self", "thing"] (spExc K "BadOption" "thing") := by
  refine F.ok sc_BadOption_init (fun vs H Q E h => ?_) (fun cdv A outer s H vs Q E hr h => ?_)
  · obtain ⟨a, v, rfl, _⟩ := h
    rfl
  · obtain ⟨a, v, rfl, hC, hno, ha, q⟩ := h
    refine ⟨_, (pss_one (ps_ost (pv 0) (pv 1))).nox, ?_⟩
    refine ⟨_, rfl, _, rfl, a, _, rfl, hC, hno, .inl ⟨ha, fun dx h1 h2 => q dx h1 h2⟩⟩
end
/-- what is wanted where an error of the class x, that holds v, leaves at H -/
def Err (K : PySem.W.Frag) (x : Str) (v : V) (H : Hp) (E : XK) : Prop := ∀ d H', H d = none → (∀ b, b ≠ d → H' b = H b) → H' d = some (.xd [("thing", v)]) → E (.ref (He.ga K x)) (some d) H'
theorem Err.ex {K : PySem.W.Frag} {x : Str} {v : V} {H : Hp} {E : XK} (h : ∀ d H', H d = none → Ex H H' → H' d = some (.xd [("thing", v)]) → E (.ref (He.ga K x)) (some d) H') : Err K x v H E := fun d H' hd hb h2 =>
  h d H' hd (fun b o e => by rw [hb b (ne_of_none e hd)]; exact e) h2
def ErrRaw (K : PySem.W.Frag) (x : Str) (E : XK) (vs : List V) (H1 : Hp) : Prop := vs.length ≤ 1000 ∧ ∀ a, H1 a = none → spExc K x "thing" (.ref a :: (vs ++ [])) (upd H1 a (exo a (He.ga K x) none))
  (fun u H2 => u = .non ∧ ∃ (d : Addr) (fs : List (Str × V)), H2 a = some (exo a (He.ga K x) (some d)) ∧ H2 d = some (exd d fs) ∧ H1 d = none ∧ E (.ref (He.ga K x)) (some d) (upd (del H2 a) d (.xd fs))) (fun _ _ _ => False)
def tErr (K : PySem.W.Frag) (x : Str) (E : XK) (te : TE) : TS := fun _ σ H => te σ H fun v H1 => ErrRaw K x E [v] H1
theorem errRaw {K : PySem.W.Frag} {mg : Str → Option Value} {x q : Str} {st : Stmt} {E : XK} {v : V} {H1 : Hp} (T : ExcAt K mg x q "thing" st) (h : Err K x v H1 E) : ErrRaw K x E [v] H1 := by
  refine ⟨by show 1 ≤ 1000; decide, fun a ha => ⟨a, v, rfl, T.oex, T.noF, upd_same, fun dx hdx hne => ⟨rfl, dx, _, upd_same, by rw [upd_ne hne]; exact upd_same, ?_, ?_⟩⟩⟩
  · rw [upd_ne hne] at hdx
    exact hdx
  · refine h dx _ (by rw [upd_ne hne] at hdx; exact hdx) (fun b hb => ?_) upd_same
    rw [upd_ne hb]
    by_cases hba : b = a
    · rw [hba, del_same, ha]
    · rw [del_ne hba, upd_ne hba, upd_ne hb, upd_ne hba]
theorem g_err {K : PySem.W.Frag} {x : Str} {E : XK} {te : TE} {D : Ends} {σ : L2.St} {H : Hp} (h : te σ H fun v H1 => ErrRaw K x E [v] H1) : tErr K x E te D σ H := h
section
variable {X : Cx}
/-- raise x(e) -/
theorem ps_err {x q : Str} {st : Stmt} {E : XK} {e : Expr} {te : TE} {k : Nat} {p pos pos2 : Pos} (T : ExcAt X.K X.mg x q "thing" st)
    (F : ∀ {fd : FuncData}, FunD X.K "__init__" q (defArgs st) (defBody st) (defScope st) [] [] (He.ma X.K (He.ga X.K x) "__init__") fd → FnOk X.prog X.w X.K X.mg X.base CX0 1 (He.ma X.K (He.ga X.K x) "__init__") fd ["self", "thing"] (spExc X.K x "thing"))
    (hr : Room (k + 2) X.A) (hc : X.calm = true) (tk : Takes X (fun cls d _ H => E cls d H)) (he : PE X e te) (hg : Gl X x := by rfl) (hdb : (x == ("__debug__" : Str)) = false := by decide +kernel)
    (hs : starEach (e :: []) X.env = (false, eval e X.env) :: starEach [] X.env := by rfl) (hpl : (backTo pos (starEach [] X.env)).any (·.1) = false := by rfl) :
    PS X (.Raise (some (.Call (.Name x p) [e] [] pos)) none pos2) (tErr X.K x E te) := by
  obtain ⟨fd, D, b⟩ := T.F
  have h := ps_raise (pos := pos2) hc tk (pmk_oex (p := p) T.oex T.ini T.tini (F D) (hr.mono (by omega)) b .nil (fun _ _ _ _ _ _ _ z => z.elim) hg T.g (pa_cons he pa_nil hs) hdb hs hpl)
  exact ⟨fun pins s σ H D I hh => h.run pins s σ H D I hh⟩
theorem passF {P : Program} {w : World} : ∀ {X : Cx}, Passes (L2.CX P w) X (fun _ _ _ => False) := fun {X} pins σ H s e s' I h => by
  obtain ⟨_, _, _, _, _, _, _, _, _, _, _, _, z⟩ := h
  exact z.elim
end
/-! ### what is asked of arguments -/
/-- the book at v has the rules that hold of it -/
def spCkBook (K : PySem.W.Frag) : Sp := fun vs H Q E => ∃ v : V, vs = [v] ∧ ((∃ b dx fs, v = .ref b ∧ H b = some (.ins (He.ga K "Book") dx fs) ∧ Q v H) ∨
  ((NSeq H v ∨ ∃ a xs, v = .ref a ∧ H a = some (.lst xs)) ∧ (∀ b, v ≠ .bl b) ∧ Err K "BadBook" v H E))
def spCkHeap (K : PySem.W.Frag) : Sp := fun vs H Q E => ∃ v : V, vs = [v] ∧ Plain K H v ∧ (isHp v = true → Q v H) ∧ (isHp v = false → Err K "BadHeap" v H E)
def spCkMost (K : PySem.W.Frag) : Sp := fun vs H Q E => ∃ v : V, vs = [v] ∧ Plain K H v ∧ (isNu v = true → Q v H) ∧ (isNu v = false → Err K "BadNumber" v H E)
section
variable {P : Program} {w : World} {K : PySem.W.Frag} {mg : Str → Option Value} {base : Heap}
theorem sc_checked_book : FnScope ["book"] ["book"] (defScope st_checked_book) := ⟨rfl, rfl, rfl, by decide +kernel, rfl, by decide +kernel, by decide +kernel⟩
theorem ok_checked_book (T : Txt K mg) : Kept P w K mg base (L2.CX P w) 4 "checked_book" ["book"] (spCkBook K) := by
  refine keptX T.d_checked_book sc_checked_book (fun vs H Q E h => ?_) (fun cdv A outer s H vs Q E hr h => ?_)
  · obtain ⟨v, rfl, _⟩ := h
    rfl
  · obtain ⟨v, rfl, hv⟩ := h
    refine ⟨_, (pss_cons (ps_if (pt_not (pt_val (pe_callB call_isi (by rfl) T.f_isinstance (by decide +kernel) (pa_cons (pv 0) (pa_cons (pe_glob (v := .ref (He.ga K "Book")) (by rfl) T.bookG rfl) pa_nil))))) (pss_one (ps_err (k := 0) T.e_BadBook ok_BadBook_init (hr.mono (by decide)) rfl (takes_of rfl rfl rfl rfl) (pv 0))) pss_nil)
      (pss_one (ps_ret (pv 0)))), ?_⟩
    walk_at "g"
    rcases hv with ⟨b, dx, fs, rfl, hb, q⟩ | ⟨hv, nb, q⟩
    · refine ⟨_, _, _, _, true, rfl, .own _, .base (.ins hb T.bookI.ins.cl T.bookI.ins.ha T.bookI.ins.hn T.bookI.ins.htk T.bookI.ins.hm), T.bookI.ins.me, ?_⟩
      walk_at "g"
      exact q
    · have ty : ∃ t : String, t ∈ ["NoneType", "int", "str", "list", "dict"] ∧ TyX K H v (.type t) := by
        rcases hv with (rfl | ⟨b, rfl⟩ | ⟨i, rfl⟩ | ⟨x, rfl⟩ | ⟨a, kvs, rfl, h⟩) | ⟨a, xs, rfl, hs⟩
        · exact ⟨_, by simp, .base .non⟩
        · exact absurd rfl (nb b)
        · exact ⟨_, by simp, .base (.int i)⟩
        · exact ⟨_, by simp, .base (.str x)⟩
        · exact ⟨_, by simp, .base (.dK h)⟩
        · exact ⟨_, by simp, .base (.lst hs)⟩
      obtain ⟨t, ht, ty⟩ := ty
      refine ⟨_, _, _, _, false, rfl, .own _, ty, T.bookI.no t ht, ?_⟩
      walk_at "g"
      refine g_err ?_
      walk_at "g"
      exact errRaw T.e_BadBook q
theorem sc_checked_heap : FnScope ["heap"] ["heap"] (defScope st_checked_heap) := ⟨rfl, rfl, rfl, by decide +kernel, rfl, by decide +kernel, by decide +kernel⟩
theorem ok_checked_heap (T : Txt K mg) : Kept P w K mg base (L2.CX P w) 4 "checked_heap" ["heap"] (spCkHeap K) := by
  have G_is_heap := ok_is_heap (P := P) (w := w) (base := base) T
  refine keptX T.d_checked_heap sc_checked_heap (fun vs H Q E h => ?_) (fun cdv A outer s H vs Q E hr h => ?_)
  · obtain ⟨v, rfl, _⟩ := h
    rfl
  · obtain ⟨v, rfl, hv, q1, q2⟩ := h
    refine ⟨_, (pss_cons (ps_if (pt_not (pt_val (pe_c G_is_heap (hr.mono (by decide)) pass0 (pa_cons (pv 0) pa_nil)))) (pss_one (ps_err (k := 0) T.e_BadHeap ok_BadHeap_init (hr.mono (by decide)) rfl (takes_of rfl rfl rfl rfl) (pv 0))) pss_nil)
      (pss_one (ps_ret (pv 0)))), ?_⟩
    walk_at "g"
    refine ⟨v, rfl, hv, ?_⟩
    walk_at "g"
    cases e : isHp v with
    | true =>
      walk_at "g"
      exact q1 e
    | false =>
      walk_at "g"
      refine g_err ?_
      walk_at "g"
      exact errRaw T.e_BadHeap (q2 e)
theorem sc_checked_most : FnScope ["most"] ["most"] (defScope st_checked_most) := ⟨rfl, rfl, rfl, by decide +kernel, rfl, by decide +kernel, by decide +kernel⟩
theorem ok_checked_most (T : Txt K mg) : Kept P w K mg base (L2.CX P w) 4 "checked_most" ["most"] (spCkMost K) := by
  have G_is_number := ok_is_number (P := P) (w := w) (base := base) T
  refine keptX T.d_checked_most sc_checked_most (fun vs H Q E h => ?_) (fun cdv A outer s H vs Q E hr h => ?_)
  · obtain ⟨v, rfl, _⟩ := h
    rfl
  · obtain ⟨v, rfl, hv, q1, q2⟩ := h
    refine ⟨_, (pss_cons (ps_if (pt_not (pt_val (pe_c G_is_number (hr.mono (by decide)) pass0 (pa_cons (pv 0) pa_nil)))) (pss_one (ps_err (k := 0) T.e_BadNumber ok_BadNumber_init (hr.mono (by decide)) rfl (takes_of rfl rfl rfl rfl) (pv 0))) pss_nil)
      (pss_one (ps_ret (pv 0)))), ?_⟩
    walk_at "g"
    refine ⟨v, rfl, hv, ?_⟩
    walk_at "g"
    cases e : isNu v with
    | true =>
      walk_at "g"
      exact q1 e
    | false =>
      walk_at "g"
      refine g_err ?_
      walk_at "g"
      exact errRaw T.e_BadNumber (q2 e)
end
end Tk
namespace Tk
open PySem PySem.Spec PyProof.Rows L2
open Evl (Ex ex_l ex_t ex_rd sq_of st_of fresh_back)
/-! ### rules -/
structure Rl where
  lo : Int
  hi : Option Int
  lf : Str
  re : Int
  mo : Int
  deriving DecidableEq
abbrev hv (h : Option Int) : V := match h with
  | none => .non
  | some k => .int k
abbrev rv (r : Rl) : List V := [.int r.lo, hv r.hi, .str r.lf, .int r.re, .int r.mo]
structure Good (r : Rl) : Prop where
  lo0 : 0 ≤ r.lo
  lo12 : r.lo ≤ 12
  lf3 : r.lf = "none" ∨ r.lf = "one" ∨ r.lf = "two"
  lo1 : r.lf ≠ "two" → 1 ≤ r.lo
  mo1 : 1 ≤ r.mo
  mo6 : r.mo ≤ 6
  re0 : 0 ≤ r.re
  rem : r.re < r.mo
  hiN : r.hi = none → r.lf ≠ "two" ∧ r.mo = 1
  hiS : ∀ h, r.hi = some h → r.lo ≤ h ∧ h ≤ 12
/-- two rules that may stand in one book -/
def Fit (r s : Rl) : Prop := ¬ (r.hi = none ∧ s.lf = "two") ∧ ¬ (s.hi = none ∧ r.lf = "two")
/-- the rules of a book -/
structure Goods (R : List Rl) : Prop where
  good : ∀ r ∈ R, Good r
  nd : R.Nodup
  fit : ∀ r ∈ R, ∀ s ∈ R, Fit r s
  len : R.length ≤ 6
theorem Goods.perm {R S : List Rl} (g : Goods R) (p : S.Perm R) : Goods S :=
  ⟨fun r h => g.good r (p.mem_iff.mp h), p.nodup_iff.mpr g.nd, fun r h s h' => g.fit r (p.mem_iff.mp h) s (p.mem_iff.mp h'), by rw [p.length_eq]; exact g.len⟩
/-! ### lines -/
def ds (i : Int) : Str := Str.ofString (toString i)
def lineT (r : Rl) : Str := match r.hi with
  | none => ds r.lo ++ " or more"
  | some h => if h = r.lo then ds r.lo else ds r.lo ++ " to " ++ ds h
def lineA (r : Rl) : Str := "take " ++ lineT r ++ " leave "
def lineC (r : Rl) : Str := if r.mo = 1 then Str.empty else " when " ++ ds r.re ++ " of " ++ ds r.mo
def line (r : Rl) : Str := lineA r ++ r.lf ++ lineC r
/-- small numbers, one by one -/
theorem upto {p : Int → Prop} {n : Nat} (h : ∀ k : Fin (n + 1), p (k.val : Int)) {i : Int} (h0 : 0 ≤ i) (h1 : i ≤ n) : p i := by
  have e : i = ((i.toNat : Nat) : Int) := by omega
  rw [e]
  exact h ⟨i.toNat, by omega⟩
/-! ### a rule is told by its line -/
def cd (s : Str) : List Nat := s.cps.toList
theorem cd_app (a b : Str) : cd (a ++ b) = cd a ++ cd b := by
  show (a.cps ++ b.cps).toList = _
  rw [Array.toList_append]
  rfl
theorem cd_inj {a b : Str} (h : cd a = cd b) : a = b := by
  obtain ⟨x⟩ := a
  obtain ⟨y⟩ := b
  have e : x = y := Array.toList_inj.mp h
  rw [e]
def rA (p : Int × Option Int) : Rl := ⟨p.1, p.2, Str.empty, 0, 1⟩
def rC (p : Int × Int) : Rl := ⟨0, none, Str.empty, p.1, p.2⟩
def listA : List (Int × Option Int) := (List.range 13).flatMap fun l => (Int.ofNat l, (none : Option Int)) :: (List.range 13).map fun h => (Int.ofNat l, some (Int.ofNat h))
def listC : List (Int × Int) := ((List.range 6).flatMap fun r => (List.range 7).map fun m => (Int.ofNat r, Int.ofNat m)).filter fun p => decide (1 ≤ p.2 ∧ p.1 < p.2)
def pfx : List Nat → List Nat → Bool
  | [], _ => true
  | _, [] => false
  | x :: xs, y :: ys => (x == y) && pfx xs ys
def pfree {α : Type} [DecidableEq α] (t : List α) (f : α → List Nat) : Bool := t.all fun x => t.all fun y => !pfx (f x) (f y) || decide (x = y)
def words : List Str := ["none", "one", "two"]
def cA (p : Int × Option Int) : List Nat := cd (lineA (rA p))
def cC (p : Int × Int) : List Nat := cd (lineC (rC p))
theorem pfreeA : pfree listA cA = true := by decide +kernel
theorem pfreeB : pfree words cd = true := by decide +kernel
def injB {α : Type} [DecidableEq α] (t : List α) (f : α → List Nat) : Bool := t.all fun x => t.all fun y => !(f x == f y) || decide (x = y)
theorem injC : injB (listC.filter fun p => decide (p.2 ≠ 1)) cC = true := by decide +kernel
theorem pfx_of : ∀ {a b x y : List Nat}, a ++ x = b ++ y → pfx a b = true ∨ pfx b a = true
  | [], _, _, _, _ => .inl (by simp [pfx])
  | _ :: _, [], _, _, _ => .inr (by simp [pfx])
  | a :: as, b :: bs, x, y, h => by
    have h1 : a = b := (List.cons.inj h).1
    have h2 : as ++ x = bs ++ y := (List.cons.inj h).2
    rcases pfx_of h2 with q | q
    · exact .inl (by simp [pfx, h1, q])
    · exact .inr (by simp [pfx, h1, q])
theorem pfree_use {α : Type} [DecidableEq α] {t : List α} {f : α → List Nat} (h : pfree t f = true) {p q : α} {x y : List Nat} (ha : p ∈ t) (hb : q ∈ t) (e : f p ++ x = f q ++ y) : p = q ∧ x = y := by
  have key : ∀ {p q : α}, p ∈ t → q ∈ t → pfx (f p) (f q) = true → p = q := fun {p q} ha hb z => by
    have h1 := List.all_eq_true.mp (List.all_eq_true.mp h _ ha) _ hb
    simp only [z, Bool.not_true, Bool.false_or, decide_eq_true_eq] at h1
    exact h1
  have e1 : p = q := by
    rcases pfx_of e with z | z
    · exact key ha hb z
    · exact (key hb ha z).symm
  subst e1
  exact ⟨rfl, List.append_cancel_left e⟩
theorem injB_use {α : Type} [DecidableEq α] {t : List α} {f : α → List Nat} (h : injB t f = true) {p q : α} (ha : p ∈ t) (hb : q ∈ t) (e : f p = f q) : p = q := by
  have h1 := List.all_eq_true.mp (List.all_eq_true.mp h _ ha) _ hb
  simp only [e, beq_self_eq_true, Bool.not_true, Bool.false_or, decide_eq_true_eq] at h1
  exact h1
theorem in_range {i : Int} {n : Nat} (h0 : 0 ≤ i) (h1 : i < n) : ∃ k, k ∈ List.range n ∧ Int.ofNat k = i := ⟨i.toNat, List.mem_range.mpr (by omega), by simp; omega⟩
theorem mem_listA {r : Rl} (g : Good r) : (r.lo, r.hi) ∈ listA := by
  have := g.lo0
  have := g.lo12
  obtain ⟨l, hl, el⟩ := in_range (n := 13) g.lo0 (by omega)
  refine List.mem_flatMap.mpr ⟨l, hl, ?_⟩
  rw [el]
  cases e : r.hi with
  | none => exact List.mem_cons_self
  | some h =>
    have := g.hiS h e
    obtain ⟨k, hk, ek⟩ := in_range (n := 13) (i := h) (by omega) (by omega)
    exact List.mem_cons_of_mem _ (List.mem_map.mpr ⟨k, hk, by rw [ek]⟩)
theorem mem_listC {r : Rl} (g : Good r) : (r.re, r.mo) ∈ listC := by
  have := g.re0
  have := g.rem
  have := g.mo1
  have := g.mo6
  obtain ⟨l, hl, el⟩ := in_range (n := 6) g.re0 (by omega)
  obtain ⟨k, hk, ek⟩ := in_range (n := 7) (i := r.mo) (by omega) (by omega)
  refine List.mem_filter.mpr ⟨List.mem_flatMap.mpr ⟨l, hl, List.mem_map.mpr ⟨k, hk, by rw [el, ek]⟩⟩, ?_⟩
  simp only [decide_eq_true_eq]
  omega
theorem mem_words {r : Rl} (g : Good r) : r.lf ∈ words := by
  rcases g.lf3 with h | h | h <;> rw [h] <;> simp [words]
theorem line_inj {r s : Rl} (g : Good r) (g' : Good s) (e : line r = line s) : r = s := by
  have e1 : cA (r.lo, r.hi) ++ (cd r.lf ++ cC (r.re, r.mo)) = cA (s.lo, s.hi) ++ (cd s.lf ++ cC (s.re, s.mo)) := by
    have q : cd (lineA r ++ r.lf ++ lineC r) = cd (lineA s ++ s.lf ++ lineC s) := congrArg cd e
    rw [cd_app, cd_app, cd_app, cd_app, List.append_assoc, List.append_assoc] at q
    exact q
  obtain ⟨h1, e2⟩ := pfree_use pfreeA (mem_listA g) (mem_listA g') e1
  obtain ⟨h2, e3⟩ := pfree_use pfreeB (mem_words g) (mem_words g') e2
  have h3 : (r.re, r.mo) = (s.re, s.mo) := by
    have nz : ∀ {t : Rl}, t.mo ≠ 1 → cC (t.re, t.mo) ≠ [] := fun {t} ht z => by
      have q : cd (if t.mo = 1 then Str.empty else " when " ++ ds t.re ++ " of " ++ ds t.mo) = [] := z
      rw [if_neg ht, cd_app, cd_app, cd_app] at q
      have q2 := (List.append_eq_nil_iff.mp (List.append_eq_nil_iff.mp (List.append_eq_nil_iff.mp q).1).1).1
      exact absurd q2 (by decide +kernel)
    have yz : ∀ {t : Rl}, t.mo = 1 → cC (t.re, t.mo) = [] := fun {t} ht => by
      show cd (if t.mo = 1 then Str.empty else " when " ++ ds t.re ++ " of " ++ ds t.mo) = []
      rw [if_pos ht]
      rfl
    by_cases a : r.mo = 1
    · by_cases b : s.mo = 1
      · have := g.re0
        have := g.rem
        have := g'.re0
        have := g'.rem
        have : r.re = s.re := by omega
        rw [this, a, b]
      · rw [yz a] at e3
        exact absurd e3.symm (nz b)
    · by_cases b : s.mo = 1
      · rw [yz b] at e3
        exact absurd e3 (nz a)
      · exact injB_use injC (List.mem_filter.mpr ⟨mem_listC g, by simpa using a⟩) (List.mem_filter.mpr ⟨mem_listC g', by simpa using b⟩) e3
  obtain ⟨lo, hi, lf, re, mo⟩ := r
  obtain ⟨lo', hi', lf', re', mo'⟩ := s
  cases h1
  cases h2
  cases h3
  rfl
end Tk
namespace Tk
open PySem PySem.Spec PyProof.Rows L2
open Evl (Ex ex_l ex_t ex_rd sq_of st_of fresh_back)
local macro_rules | `(tactic| walk_at "g") => `(tactic| (repeat (first
  | (with_reducible refine g_seq ?_) | (with_reducible refine g_asg ?_) | (with_reducible refine g_name ?_) | (with_reducible refine g_sub ?_)
  | ((with_reducible refine' g_var ?e ?_); (case e => exact rfl)) | (with_reducible refine g_c ?_) | (with_reducible refine g_op ?_) | (with_reducible refine g_un ?_) | (with_reducible refine g_U ?_)
  | (with_reducible refine g_I0 ?_) | (with_reducible refine g_eqI ?_) | (with_reducible refine g_neI ?_) | (with_reducible refine g_eqS ?_) | (with_reducible refine g_neS ?_) | (with_reducible refine g_eqB ?_) | (with_reducible refine g_neB ?_)
  | (with_reducible refine g_test ?_) | (with_reducible refine g_tB ?_) | (with_reducible refine g_bl ?_) | (with_reducible refine g_and ?_) | (with_reducible refine g_or ?_) | (with_reducible refine g_not ?_)
  | (with_reducible refine g_andV ?_) | (with_reducible refine g_orV ?_) | (with_reducible refine g_notV ?_) | (with_reducible refine g_ifE ?_) | (with_reducible refine g_ifS ?_)
  | (with_reducible refine g_next ?_) | (with_reducible refine g_ret ?_) | (with_reducible refine g_drop ?_) | (with_reducible refine g_nil ?_) | (with_reducible refine g_cons ?_) | (with_reducible refine g_call ?_)
  | (with_reducible refine g_cb ?_) | (with_reducible refine g_bm ?_) | (with_reducible refine g_lst ?_) | (with_reducible refine g_tup ?_) | (with_reducible refine iteT ?_) | (with_reducible refine iteF ?_) | (with_reducible refine g_nt ?_) | (with_reducible refine g_nf ?_)
  | (with_reducible refine g_par ?_) | (with_reducible refine g_par3 ?_) | (with_reducible refine g_two ?_) | (with_reducible refine g_three ?_) | (with_reducible refine g_ckw ?_) | (with_reducible refine g_yes ?_) | (with_reducible refine g_chain ?_) | (with_reducible refine g_gnil ?_) | (with_reducible refine g_gcons ?_) | (with_reducible refine g_fld ?_) | (with_reducible refine g_sfld ?_) | (with_reducible refine g_isN ?_) | (with_reducible refine g_nint ?_) | (with_reducible refine g_nintB ?_) | (with_reducible refine g_max ?_) | (with_reducible refine g_min ?_))))
local macro_rules | `(tactic| walk_at "k") => `(tactic| (repeat (first
  | (with_reducible refine g_seq ?_) | (with_reducible refine g_asg ?_) | (with_reducible refine g_name ?_) | (with_reducible refine g_sub ?_)
  | ((with_reducible refine' g_var ?e ?_); (case e => exact rfl)) | (with_reducible refine g_c ?_) | (with_reducible refine g_op ?_) | (with_reducible refine g_un ?_) | (with_reducible refine g_U ?_)
  | (with_reducible refine g_I0 ?_) | (with_reducible refine g_eqI ?_) | (with_reducible refine g_neI ?_) | (with_reducible refine g_eqS ?_) | (with_reducible refine g_neS ?_) | (with_reducible refine g_eqB ?_) | (with_reducible refine g_neB ?_)
  | (with_reducible refine g_test ?_) | (with_reducible refine g_tB ?_) | (with_reducible refine g_bl ?_) | (with_reducible refine g_and ?_) | (with_reducible refine g_or ?_) | (with_reducible refine g_not ?_)
  | (with_reducible refine g_andV ?_) | (with_reducible refine g_orV ?_) | (with_reducible refine g_notV ?_) | (with_reducible refine g_ifE ?_)
  | (with_reducible refine g_next ?_) | (with_reducible refine g_ret ?_) | (with_reducible refine g_drop ?_) | (with_reducible refine g_nil ?_) | (with_reducible refine g_cons ?_) | (with_reducible refine g_call ?_)
  | (with_reducible refine g_cb ?_) | (with_reducible refine g_bm ?_) | (with_reducible refine g_lst ?_) | (with_reducible refine g_tup ?_) | (with_reducible refine iteT ?_) | (with_reducible refine iteF ?_) | (with_reducible refine g_nt ?_) | (with_reducible refine g_nf ?_)
  | (with_reducible refine g_par ?_) | (with_reducible refine g_par3 ?_) | (with_reducible refine g_two ?_) | (with_reducible refine g_three ?_) | (with_reducible refine g_ckw ?_) | (with_reducible refine g_yes ?_) | (with_reducible refine g_chain ?_) | (with_reducible refine g_gnil ?_) | (with_reducible refine g_gcons ?_) | (with_reducible refine g_fld ?_) | (with_reducible refine g_sfld ?_) | (with_reducible refine g_isN ?_) | (with_reducible refine g_nint ?_) | (with_reducible refine g_nintB ?_) | (with_reducible refine g_max ?_) | (with_reducible refine g_min ?_))))
def RuleT (K : PySem.W.Frag) (H : Hp) (v : V) (r : Rl) : Prop := ∃ a, v = .ref a ∧ SqT K H a (rv r)
def RuleQ (K : PySem.W.Frag) (H : Hp) (v : V) (r : Rl) : Prop := ∃ a, v = .ref a ∧ Seq K H a (rv r)
theorem RuleT.ex {K : PySem.W.Frag} {H H' : Hp} {v : V} {r : Rl} (h : RuleT K H v r) (e : Ex H H') : RuleT K H' v r := by
  obtain ⟨a, h1, h2⟩ := h
  exact ⟨a, h1, ex_t e h2⟩
theorem RuleQ.ex {K : PySem.W.Frag} {H H' : Hp} {v : V} {r : Rl} (h : RuleQ K H v r) (e : Ex H H') : RuleQ K H' v r := by
  obtain ⟨a, h1, h2⟩ := h
  exact ⟨a, h1, h2.ex e⟩
theorem RuleT.q {K : PySem.W.Frag} {H : Hp} {v : V} {r : Rl} (h : RuleT K H v r) : RuleQ K H v r := by
  obtain ⟨a, h1, h2⟩ := h
  exact ⟨a, h1, .inr h2⟩
def most (r : Rl) (h : Int) : Int := match r.hi with
  | none => h
  | some k => if h < k then h else k
def spIsRule (K : PySem.W.Frag) : Sp := fun vs H Q _ => ∃ (v : V) (r : Rl), vs = [v] ∧ RuleQ K H v r ∧ Good r ∧ ∀ H', Ex H H' → Q (.bl true) H'
def spGo (K : PySem.W.Frag) : Sp := fun vs H Q _ => ∃ (v u : V) (r s : Rl), vs = [v, u] ∧ RuleQ K H v r ∧ RuleQ K H u s ∧ Fit r s ∧ Q (.bl true) H
def spLine (K : PySem.W.Frag) : Sp := fun vs H Q _ => ∃ (v : V) (r : Rl), vs = [v] ∧ RuleT K H v r ∧ Good r ∧ Q (.str (line r)) H
def spMost (K : PySem.W.Frag) : Sp := fun vs H Q _ => ∃ (v : V) (r : Rl) (h : Int), vs = [v, .int h] ∧ RuleT K H v r ∧ Q (.int (most r h)) H
section
variable {P : Program} {w : World} {K : PySem.W.Frag} {mg : Str → Option Value} {base : Heap}
theorem sc_is_rule : FnScope ["thing", "low", "high", "left", "rest", "modulus"] ["thing"] (defScope st_is_rule) := ⟨rfl, rfl, rfl, by decide +kernel, rfl, by decide +kernel, by decide +kernel⟩
theorem ok_is_rule (T : Txt K mg) : Kept P w K mg base CX0 3 "is_rule" ["thing"] (spIsRule K) := by
  have G_is_list := ok_is_list (P := P) (w := w) (base := base) T
  have G_is_number := ok_is_number (P := P) (w := w) (base := base) T
  refine kept0 T.d_is_rule sc_is_rule (fun vs H Q E h => ?_) (fun cdv A outer s H vs Q E hr h => ?_)
  · obtain ⟨v, r, rfl, _⟩ := h
    rfl
  · obtain ⟨v, r, rfl, ⟨a, rfl, hs⟩, g, q⟩ := h
    refine ⟨_, (pss_cons (ps_if (PW.pt (pw_or (pt_not (pt_val (pe_c G_is_list (hr.mono (by decide)) pass0 (pa_cons (pv 0) pa_nil)))) (pw_or1 (pt_cmpR op_ne (pe_callB cLen (by rfl) T.f_len (by decide +kernel) (pa_cons (pv 0) pa_nil)) pe_int (nomark _))))) (pss_one (ps_ret pe_bl)) pss_nil)
      (pss_cons (ps_asg (pv 0) (pg_seq rfl (pgs_cons (pg_name (i := 1) sc_is_rule.nd rfl (.inl rfl)) (pgs_cons (pg_name (i := 2) sc_is_rule.nd rfl (.inl rfl)) (pgs_cons (pg_name (i := 3) sc_is_rule.nd rfl (.inl rfl)) (pgs_cons (pg_name (i := 4) sc_is_rule.nd rfl (.inl rfl)) (pgs_cons (pg_name (i := 5) sc_is_rule.nd rfl (.inl rfl)) pgs_nil)))))))
      (pss_cons (ps_if (PW.pt (pw_or (pt_not (pt_val (pe_callB call_isi (by rfl) T.f_isinstance (by decide +kernel) (pa_cons (pv 3) (pa_cons (pe_bltn (v := .ty "str") (by rfl) T.f_str (by decide +kernel) rfl) pa_nil))))) (pw_or (pt_cmpR op_notIn_seq (pv 3) (pe_tup (pa_cons pe_str (pa_cons pe_str (pa_cons pe_str pa_nil)))) (by rfl)) (pw_or1 (pt_not (pt_val (pe_c G_is_number (hr.mono (by decide)) pass0 (pa_cons (pv 1) pa_nil)))))))) (pss_one (ps_ret pe_bl)) pss_nil)
      (pss_cons (ps_if (PW.pt (pw_or (PW.pt (pw_and (pt_cmpR op_eq (pv 1) pe_int (nomark _)) (pw_and1 (pt_cmpR op_ne (pv 3) pe_str (nomark _))))) (pw_or (pt_not (pt_val (pe_c G_is_number (hr.mono (by decide)) pass0 (pa_cons (pv 4) pa_nil)))) (pw_or (pt_not (pt_val (pe_c G_is_number (hr.mono (by decide)) pass0 (pa_cons (pv 5) pa_nil)))) (pw_or1 (pt_cmpR op_ge (pv 4) (pv 5) (nomark _))))))) (pss_one (ps_ret pe_bl)) pss_nil)
      (pss_cons (ps_if (pt_cmpR op_isN (pv 2) pe_non (nomark _)) (pss_one (ps_ret (pe_and (pe_cmpR op_ne (pv 3) pe_str (nomark _)) (pe_one (pe_cmpR op_eq (pv 5) pe_int (nomark _)))))) pss_nil)
      (pss_one (ps_ret (pe_and (pe_c G_is_number (hr.mono (by decide)) pass0 (pa_cons (pv 2) pa_nil)) (pe_one (pe_cmpR op_ge (pv 2) (pv 1) (nomark _))))))))))), ?_⟩
    have nu : ∀ {i : Int}, 0 ≤ i → isNu (.int i) = true := fun h => decide_eq_true h
    have pl : ∀ {i : Int} {H : Hp}, Plain K H (.int i) := fun {i H} => .inl (.inr (.inr (.inl ⟨i, rfl⟩)))
    walk_at "k"
    refine g_ifS ?_
    walk_at "k"
    refine ⟨_, true, rfl, .inl ⟨rfl, a, _, rfl, hs⟩, fun H1 e1 => ?_⟩
    walk_at "k"
    have hs1 := hs.ex e1
    refine g_len hs1 ?_
    walk_at "k"
    rw [show (decide (((rv r).length : Int) = 5)) = true from rfl]
    walk_at "k"
    refine g_gseq hs1 rfl ?_
    walk_at "k"
    refine g_ifS ?_
    walk_at "k"
    refine g_isi (.base (.str r.lf)) (show kitB _ _ = some true by decide +kernel) ?_
    walk_at "k"
    refine g_newT (sz (by decide)) fun p H2 np e2 hp b2 => ?_
    refine g_nin (b := false) (.inr (st_of hp)) rfl rfl ?_ ?_
    · rcases g.lf3 with h | h | h <;> (rw [h]; decide +kernel)
    walk_at "k"
    have e12 : Ex H H2 := e1.trans e2
    refine ⟨_, rfl, pl, ?_⟩
    walk_at "k"
    rw [nu g.lo0]
    walk_at "k"
    refine g_ifF (fun QB hQ => ?_) ?_
    · walk_at "k"
      by_cases h0 : r.lo = 0
      · have h2 : r.lf = "two" := by
          by_cases z : r.lf = "two"
          · exact z
          · have := g.lo1 z
            omega
        rw [decide_eq_true h0]
        walk_at "k"
        rw [decide_eq_true h2]
        walk_at "k"
        refine ⟨_, rfl, pl, ?_⟩
        walk_at "k"
        rw [nu g.re0]
        walk_at "k"
        refine ⟨_, rfl, pl, ?_⟩
        walk_at "k"
        rw [nu (by have := g.mo1; omega)]
        walk_at "k"
        rw [decide_eq_false (by have := g.rem; omega)]
        exact hQ
      · rw [decide_eq_false h0]
        walk_at "k"
        refine ⟨_, rfl, pl, ?_⟩
        walk_at "k"
        rw [nu g.re0]
        walk_at "k"
        refine ⟨_, rfl, pl, ?_⟩
        walk_at "k"
        rw [nu (by have := g.mo1; omega)]
        walk_at "k"
        rw [decide_eq_false (by have := g.rem; omega)]
        exact hQ
    walk_at "k"
    refine g_ifS ?_
    walk_at "k"
    cases hh : r.hi with
    | none =>
      obtain ⟨z1, z2⟩ := g.hiN hh
      rw [show decide (hv none = V.non) = true from rfl]
      walk_at "k"
      rw [decide_eq_false z1]
      walk_at "k"
      rw [decide_eq_true z2]
      exact q _ e12
    | some h =>
      obtain ⟨z1, z2⟩ := g.hiS h hh
      rw [show decide (hv (some h) = V.non) = false from rfl]
      walk_at "k"
      refine ⟨_, rfl, pl, ?_⟩
      walk_at "k"
      rw [nu (by have := g.lo0; omega)]
      walk_at "k"
      rw [decide_eq_true z1]
      exact q _ e12
theorem sc_go_together : FnScope ["rule", "other"] ["rule", "other"] (defScope st_go_together) := ⟨rfl, rfl, rfl, by decide +kernel, rfl, by decide +kernel, by decide +kernel⟩
theorem ok_go_together (T : Txt K mg) : Kept P w K mg base CX0 1 "go_together" ["rule", "other"] (spGo K) := by
  refine kept0 T.d_go_together sc_go_together (fun vs H Q E h => ?_) (fun cdv A outer s H vs Q E hr h => ?_)
  · obtain ⟨v, u, r, s, rfl, _⟩ := h
    rfl
  · obtain ⟨v, u, r, z, rfl, ⟨a, rfl, ha⟩, ⟨b, rfl, hb⟩, ⟨f1, f2⟩, q⟩ := h
    refine ⟨_, (pss_one (ps_ret (pe_not (pe_or (pe_and (pe_cmpR op_isN (pe_ix ix_seq (pv 0) pe_int (fun _ _ => rfl)) pe_non (nomark _)) (pe_one (pe_cmpR op_eq (pe_ix ix_seq (pv 1) pe_int (fun _ _ => rfl)) pe_str (nomark _)))) (pe_one (pe_and (pe_cmpR op_isN (pe_ix ix_seq (pv 1) pe_int (fun _ _ => rfl)) pe_non (nomark _)) (pe_one (pe_cmpR op_eq (pe_ix ix_seq (pv 0) pe_int (fun _ _ => rfl)) pe_str (nomark _))))))))), ?_⟩
    walk_at "k"
    refine g_ixQ ha rfl ?_
    walk_at "k"
    by_cases h0 : r.hi = none
    · rw [show decide (hv r.hi = V.non) = true by rw [h0]; rfl]
      walk_at "k"
      refine g_ixQ hb rfl ?_
      walk_at "k"
      rw [decide_eq_false fun h => f1 ⟨h0, h⟩]
      walk_at "k"
      refine g_ixQ hb rfl ?_
      walk_at "k"
      by_cases h1 : z.hi = none
      · rw [show decide (hv z.hi = V.non) = true by rw [h1]; rfl]
        walk_at "k"
        refine g_ixQ ha rfl ?_
        walk_at "k"
        rw [decide_eq_false fun h => f2 ⟨h1, h⟩]
        walk_at "k"
        exact q
      · rw [show decide (hv z.hi = V.non) = false by cases h : z.hi with | none => exact absurd h h1 | some k => rfl]
        walk_at "k"
        exact q
    · rw [show decide (hv r.hi = V.non) = false by cases h : r.hi with | none => exact absurd h h0 | some k => rfl]
      walk_at "k"
      refine g_ixQ hb rfl ?_
      walk_at "k"
      by_cases h1 : z.hi = none
      · rw [show decide (hv z.hi = V.non) = true by rw [h1]; rfl]
        walk_at "k"
        refine g_ixQ ha rfl ?_
        walk_at "k"
        rw [decide_eq_false fun h => f2 ⟨h1, h⟩]
        walk_at "k"
        exact q
      · rw [show decide (hv z.hi = V.non) = false by cases h : z.hi with | none => exact absurd h h1 | some k => rfl]
        walk_at "k"
        exact q
theorem ds_len {i : Int} (h0 : 0 ≤ i) (h1 : i ≤ 12) : (ds i).length ≤ 2 := upto (p := fun i => (ds i).length ≤ 2) (n := 12) (by decide +kernel) h0 h1
theorem lg {i : Int} (h0 : 0 ≤ i) (h1 : i ≤ 12) : i.natAbs.log2 < 1920 := upto (p := fun i => i.natAbs.log2 < 1920) (n := 12) (by decide +kernel) h0 h1
theorem sl {n : Nat} (h : n ≤ 1000) : n ≤ sizeLine := sz (Nat.le_trans h (by decide))
theorem lit_len : ("take " : Str).length = 5 ∧ (" or more" : Str).length = 8 ∧ (" to " : Str).length = 4 ∧ (" leave " : Str).length = 7 ∧ (" when " : Str).length = 6 ∧ (" of " : Str).length = 4 ∧ ("" : Str).length = 0 := by decide +kernel
theorem lf_len {r : Rl} (g : Good r) : r.lf.length ≤ 4 := by
  rcases g.lf3 with h | h | h <;> (rw [h]; decide +kernel)
theorem lineT_len {r : Rl} (g : Good r) : (lineT r).length ≤ 10 := by
  have h1 := ds_len g.lo0 g.lo12
  obtain ⟨l1, l2, l3, l4, l5, l6, l7⟩ := lit_len
  unfold lineT
  cases h : r.hi with
  | none =>
    show (ds r.lo ++ " or more").length ≤ 10
    rw [Str.length_append]
    omega
  | some k =>
    obtain ⟨a, b⟩ := g.hiS k h
    have := g.lo0
    have h2 := ds_len (i := k) (by omega) b
    show (if k = r.lo then ds r.lo else ds r.lo ++ " to " ++ ds k).length ≤ 10
    split
    · omega
    · rw [Str.length_append, Str.length_append]
      omega
theorem sc_rule_line : FnScope ["rule", "low", "high", "left", "rest", "modulus", "taken", "found"] ["rule"] (defScope st_rule_line) := ⟨rfl, rfl, rfl, by decide +kernel, rfl, by decide +kernel, by decide +kernel⟩
theorem ok_rule_line (T : Txt K mg) : Kept P w K mg base CX0 1 "rule_line" ["rule"] (spLine K) := by
  refine kept0 T.d_rule_line sc_rule_line (fun vs H Q E h => ?_) (fun cdv A outer s H vs Q E hr h => ?_)
  · obtain ⟨v, r, rfl, _⟩ := h
    rfl
  · obtain ⟨v, r, rfl, ⟨a, rfl, ha⟩, g, q⟩ := h
    refine ⟨_, (pss_cons (ps_asg (pv 0) (pg_tup rfl (pgs_cons (pg_name (i := 1) sc_rule_line.nd rfl (Or.inl rfl)) (pgs_cons (pg_name (i := 2) sc_rule_line.nd rfl (Or.inl rfl)) (pgs_cons (pg_name (i := 3) sc_rule_line.nd rfl (Or.inl rfl)) (pgs_cons (pg_name (i := 4) sc_rule_line.nd rfl (Or.inl rfl)) (pgs_cons (pg_name (i := 5) sc_rule_line.nd rfl (Or.inl rfl)) pgs_nil)))))))
      (pss_cons (ps_set (i := 6) sc_rule_line.nd rfl (Or.inl rfl) (pe_callTy cStr (by rfl) T.f_str (by decide +kernel) (pa_cons (pv 1) pa_nil)))
      (Evl.pss_cut (ps_if (pt_cmpR op_isN (pv 2) pe_non (nomark _)) (pss_one (ps_set (i := 6) sc_rule_line.nd rfl (Or.inl rfl) (pe_op opAddS (pv 6) pe_str))) (pss_one (ps_if (pt_cmpR op_ne (pv 2) (pv 1) (nomark _)) (pss_one (ps_set (i := 6) sc_rule_line.nd rfl (Or.inl rfl) (pe_op opAddS (pe_op opAddS (pv 6) pe_str) (pe_callTy cStr (by rfl) T.f_str (by decide +kernel) (pa_cons (pv 2) pa_nil))))) pss_nil)))
      (pss_cons (ps_set (i := 7) sc_rule_line.nd rfl (Or.inl rfl) (pe_op opAddS (pe_op opAddS (pe_op opAddS pe_str (pv 6)) pe_str) (pv 3)))
      (pss_one (ps_ret (pe_ifExp (pt_cmpR op_eq (pv 5) pe_int (nomark _)) (pv 7) (pe_op opAddS (pe_op opAddS (pe_op opAddS (pe_op opAddS (pv 7) pe_str) (pe_callTy cStr (by rfl) T.f_str (by decide +kernel) (pa_cons (pv 4) pa_nil))) pe_str) (pe_callTy cStr (by rfl) T.f_str (by decide +kernel) (pa_cons (pv 5) pa_nil)))))))))), ?_⟩
    have h1 := ds_len g.lo0 g.lo12
    obtain ⟨l1, l2, l3, l4, l5, l6, l7⟩ := lit_len
    have hT := lineT_len g
    have hf := lf_len g
    walk_at "k"
    refine g_gtup ha rfl ?_
    walk_at "k"
    refine g_str (lg g.lo0 g.lo12) ?_
    walk_at "k"
    refine g_cut (fun σ H' => H' = H ∧ ∃ f : Option V, σ = [some (.ref a), some (.int r.lo), some (hv r.hi), some (.str r.lf), some (.int r.re), some (.int r.mo), some (.str (lineT r)), f]) ?_ ?_
    · refine g_ifS ?_
      walk_at "k"
      cases h : r.hi with
      | none =>
        walk_at "k"
        rw [show decide (hv none = V.non) = true from rfl]
        walk_at "k"
        refine g_addS (i := ds r.lo) (sl (by omega)) ?_
        walk_at "k"
        refine ⟨rfl, none, ?_⟩
        rw [show lineT r = ds r.lo ++ " or more" by unfold lineT; rw [h]]
        rfl
      | some k =>
        obtain ⟨b1, b2⟩ := g.hiS k h
        have h2 := ds_len (i := k) (by have := g.lo0; omega) b2
        rw [show decide (hv (some k) = V.non) = false from rfl]
        walk_at "k"
        refine g_ifS ?_
        walk_at "k"
        by_cases e : k = r.lo
        · rw [decide_eq_true e]
          walk_at "k"
          refine ⟨rfl, none, ?_⟩
          rw [show lineT r = ds r.lo by unfold lineT; rw [h]; exact if_pos e]
          rfl
        · rw [decide_eq_false e]
          walk_at "k"
          refine g_addS (i := ds r.lo) (sl (by omega)) ?_
          walk_at "k"
          refine g_str (lg (by have := g.lo0; omega) b2) ?_
          refine g_addS (j := ds k) (sl (by rw [Str.length_append]; omega)) ?_
          walk_at "k"
          refine ⟨rfl, none, ?_⟩
          rw [show lineT r = ds r.lo ++ " to " ++ ds k by unfold lineT; rw [h]; exact if_neg e]
          rfl
    · rintro σ H' ⟨rfl, f, rfl⟩
      walk_at "k"
      refine g_addS (sl (by omega)) ?_
      walk_at "k"
      refine g_addS (sl (by rw [Str.length_append]; omega)) ?_
      walk_at "k"
      refine g_addS (sl (by rw [Str.length_append, Str.length_append]; omega)) ?_
      walk_at "k"
      by_cases e : r.mo = 1
      · rw [decide_eq_true e]
        walk_at "k"
        have e2 : line r = "take " ++ lineT r ++ " leave " ++ r.lf := by
          show lineA r ++ r.lf ++ lineC r = _
          rw [show lineC r = Str.empty from if_pos e, Str.append_empty]
          rfl
        rw [← e2]
        exact q
      · rw [decide_eq_false e]
        have hr0 := g.re0
        have hr1 := g.rem
        have hm := g.mo6
        have h3 := ds_len (i := r.re) hr0 (by omega)
        have h4 := ds_len (i := r.mo) (by omega) (by omega)
        have ha : ("take " ++ lineT r ++ " leave " ++ r.lf : Str).length ≤ 30 := by
          rw [Str.length_append, Str.length_append, Str.length_append]
          omega
        walk_at "k"
        refine g_addS (sl (by omega)) ?_
        walk_at "k"
        refine g_str (lg hr0 (by omega)) ?_
        refine g_addS (j := ds r.re) (sl (by rw [Str.length_append]; omega)) ?_
        walk_at "k"
        refine g_addS (sl (by rw [Str.length_append, Str.length_append]; omega)) ?_
        walk_at "k"
        refine g_str (lg (by omega) (by omega)) ?_
        refine g_addS (j := ds r.mo) (sl (by rw [Str.length_append, Str.length_append, Str.length_append]; omega)) ?_
        have e2 : line r = "take " ++ lineT r ++ " leave " ++ r.lf ++ " when " ++ ds r.re ++ " of " ++ ds r.mo := by
          show lineA r ++ r.lf ++ lineC r = _
          rw [show lineC r = " when " ++ ds r.re ++ " of " ++ ds r.mo from if_neg e]
          simp only [lineA, Str.append_assoc]
        rw [← e2]
        exact q
def mid (r : Rl) : Str := match r.hi with
  | none => " or more"
  | some k => if k = r.lo then "" else " to " ++ ds k
theorem sc_w_a_line : FnScope ["_law_rule", "_law_low", "_law_high", "_law_left", "_law_rest", "_law_modulus", "_law_found"] ["_law_rule"] (defScope st_w_a_line) := ⟨rfl, rfl, rfl, by decide +kernel, rfl, by decide +kernel, by decide +kernel⟩
theorem ok_w_a_line (T : Txt K mg) : Kept P w K mg base CX0 1 "_law_a_line" ["_law_rule"] (spLine K) := by
  refine kept0 T.d_w_a_line sc_w_a_line (fun vs H Q E h => ?_) (fun cdv A outer s H vs Q E hr h => ?_)
  · obtain ⟨v, r, rfl, _⟩ := h
    rfl
  · obtain ⟨v, r, rfl, ⟨a, rfl, ha⟩, g, q⟩ := h
    refine ⟨_, (pss_cons (ps_asg (pv 0) (pg_tup rfl (pgs_cons (pg_name (i := 1) sc_w_a_line.nd rfl (Or.inl rfl)) (pgs_cons (pg_name (i := 2) sc_w_a_line.nd rfl (Or.inl rfl)) (pgs_cons (pg_name (i := 3) sc_w_a_line.nd rfl (Or.inl rfl)) (pgs_cons (pg_name (i := 4) sc_w_a_line.nd rfl (Or.inl rfl)) (pgs_cons (pg_name (i := 5) sc_w_a_line.nd rfl (Or.inl rfl)) pgs_nil)))))))
      (pss_cons (ps_set (i := 6) sc_w_a_line.nd rfl (Or.inl rfl) (pe_op opAddS (pe_op opAddS pe_str (pe_callTy cStr (by rfl) T.f_str (by decide +kernel) (pa_cons (pv 1) pa_nil))) (pe_ifExp (pt_cmpR op_isN (pv 2) pe_non (nomark _)) pe_str (pe_ifExp (pt_cmpR op_ne (pv 2) (pv 1) (nomark _)) (pe_op opAddS pe_str (pe_callTy cStr (by rfl) T.f_str (by decide +kernel) (pa_cons (pv 2) pa_nil))) pe_str))))
      (pss_one (ps_ret (pe_op opAddS (pe_op opAddS (pe_op opAddS (pv 6) pe_str) (pv 3)) (pe_ifExp (pt_cmpR op_ne (pv 5) pe_int (nomark _)) (pe_op opAddS (pe_op opAddS (pe_op opAddS pe_str (pe_callTy cStr (by rfl) T.f_str (by decide +kernel) (pa_cons (pv 4) pa_nil))) pe_str) (pe_callTy cStr (by rfl) T.f_str (by decide +kernel) (pa_cons (pv 5) pa_nil))) pe_str)))))), ?_⟩
    have h1 := ds_len g.lo0 g.lo12
    obtain ⟨l1, l2, l3, l4, l5, l6, l7⟩ := lit_len
    have hT := lineT_len g
    have hf := lf_len g
    walk_at "k"
    refine g_gtup ha rfl ?_
    walk_at "k"
    refine g_str (lg g.lo0 g.lo12) ?_
    refine g_addS (j := ds r.lo) (sl (by omega)) ?_
    have hr0 := g.re0
    have hr1 := g.rem
    have hm := g.mo6
    refine g_ecut (.str (mid r)) (fun Q' q' => ?_) ?_
    · walk_at "k"
      cases h : r.hi with
      | none =>
        rw [show mid r = " or more" by unfold mid; rw [h]] at q'
        rw [show decide (hv none = V.non) = true from rfl]
        walk_at "k"
        exact q'
      | some k =>
        rw [show decide (hv (some k) = V.non) = false from rfl]
        walk_at "k"
        by_cases e : k = r.lo
        · rw [decide_eq_true e]
          rw [show mid r = "" by unfold mid; rw [h]; exact if_pos e] at q'
          walk_at "k"
          exact q'
        · obtain ⟨b1, b2⟩ := g.hiS k h
          rw [decide_eq_false e]
          rw [show mid r = " to " ++ ds k by unfold mid; rw [h]; exact if_neg e] at q'
          walk_at "k"
          refine g_str (lg (by have := g.lo0; omega) b2) ?_
          have h2 := ds_len (i := k) (by have := g.lo0; omega) b2
          exact g_addS (j := ds k) (sl (by omega)) q'
    have e0 : ("take " : Str) ++ ds r.lo ++ mid r = "take " ++ lineT r := by
      unfold lineT mid
      cases h : r.hi with
      | none => simp only [Str.append_assoc]
      | some k =>
        by_cases e : k = r.lo
        · show _ ++ (if k = r.lo then ("" : Str) else " to " ++ ds k) = _ ++ (if k = r.lo then ds r.lo else ds r.lo ++ " to " ++ ds k)
          rw [if_pos e, if_pos e]
          exact Str.append_empty _
        · show _ ++ (if k = r.lo then ("" : Str) else " to " ++ ds k) = _ ++ (if k = r.lo then ds r.lo else ds r.lo ++ " to " ++ ds k)
          rw [if_neg e, if_neg e]
          simp only [Str.append_assoc]
    have e1 : (mid r).length ≤ 10 := by
      have := congrArg Str.length e0
      simp only [Str.length_append] at this
      omega
    refine g_addS (sl (by rw [Str.length_append]; omega)) ?_
    rw [e0]
    walk_at "k"
    refine g_addS (sl (by rw [Str.length_append]; omega)) ?_
    walk_at "k"
    refine g_addS (sl (by rw [Str.length_append, Str.length_append]; omega)) ?_
    refine g_ecut (.str (lineC r)) (fun Q' q' => ?_) ?_
    · walk_at "k"
      by_cases e : r.mo = 1
      · rw [decide_eq_true e]
        walk_at "k"
        rw [show lineC r = Str.empty from if_pos e] at q'
        exact q'
      · rw [decide_eq_false e]
        have h3 := ds_len (i := r.re) hr0 (by omega)
        have h4 := ds_len (i := r.mo) (by omega) (by omega)
        rw [show lineC r = " when " ++ ds r.re ++ " of " ++ ds r.mo from if_neg e] at q'
        walk_at "k"
        refine g_str (lg hr0 (by omega)) ?_
        refine g_addS (j := ds r.re) (sl (by omega)) ?_
        walk_at "k"
        refine g_addS (sl (by rw [Str.length_append]; omega)) ?_
        walk_at "k"
        refine g_str (lg (by omega) (by omega)) ?_
        exact g_addS (j := ds r.mo) (sl (by rw [Str.length_append, Str.length_append]; omega)) q'
    have hc : (lineC r).length ≤ 20 := by
      unfold lineC
      split
      · decide
      · have h3 := ds_len (i := r.re) hr0 (by omega)
        have h4 := ds_len (i := r.mo) (by omega) (by omega)
        rw [Str.length_append, Str.length_append, Str.length_append]
        omega
    exact g_addS (sl (by rw [Str.length_append, Str.length_append, Str.length_append]; omega)) q
theorem sc_taken_most : FnScope ["rule", "heap"] ["rule", "heap"] (defScope st_taken_most) := ⟨rfl, rfl, rfl, by decide +kernel, rfl, by decide +kernel, by decide +kernel⟩
theorem ok_taken_most (T : Txt K mg) : Kept P w K mg base CX0 1 "taken_most" ["rule", "heap"] (spMost K) := by
  refine kept0 T.d_taken_most sc_taken_most (fun vs H Q E h => ?_) (fun cdv A outer s H vs Q E hr h => ?_)
  · obtain ⟨v, r, h, rfl, _⟩ := h
    rfl
  · obtain ⟨v, r, h, rfl, ⟨a, rfl, ha⟩, q⟩ := h
    refine ⟨_, (pss_one (ps_ret (pe_ifExp (pt_cmpR op_isN (pe_ix ix_tup (pv 0) pe_int (fun _ _ => rfl)) pe_non (nomark _)) (pv 1) (pe_callB (cMin rfl) (by rfl) T.f_min (by decide +kernel) (pa_cons (pe_ix ix_tup (pv 0) pe_int (fun _ _ => rfl)) (pa_cons (pv 1) pa_nil)))))), ?_⟩
    walk_at "k"
    refine g_ixT ha rfl ?_
    walk_at "k"
    cases e : r.hi with
    | none =>
      rw [show decide (hv none = V.non) = true from rfl]
      walk_at "k"
      rw [show most r h = h by unfold most; rw [e]] at q
      exact q
    | some k =>
      rw [show decide (hv (some k) = V.non) = false from rfl]
      walk_at "k"
      refine g_ixT ha rfl ?_
      rw [e]
      walk_at "k"
      rw [show most r h = if h < k then h else k by unfold most; rw [e]] at q
      exact q
end
end Tk
namespace Tk
open PySem PySem.Spec PyProof.Rows L2 SrtO
/-! ### sorted(xs, key=def): the keys are texts -/
/-- texts by their code points -/
def ltS (x y : Str) : Bool := decide (x.cps.toList < y.cps.toList)
theorem ltS_irr (x : Str) : ltS x x = false := decide_eq_false (List.lt_irrefl _)
theorem ltS_asym {x y : Str} (h : ltS x y = true) : ltS y x = false := decide_eq_false fun q => List.lt_irrefl _ (List.lt_trans (of_decide_eq_true h) q)
theorem ltS_tr {x y z : Str} (h1 : ltS y x = false) (h2 : ltS z y = false) : ltS z x = false :=
  decide_eq_false fun q => absurd q (List.not_lt.mpr (List.le_trans (List.not_lt.mp (of_decide_eq_false h1)) (List.not_lt.mp (of_decide_eq_false h2))))
theorem ltS_tot {x y : Str} (h1 : ltS x y = false) (h2 : ltS y x = false) : x = y :=
  cd_inj (List.le_antisymm (List.not_lt.mp (of_decide_eq_false h2)) (List.not_lt.mp (of_decide_eq_false h1)))
def ltK (p q : Keyed) : Bool := ltS (strOf p.1) (strOf q.1)
theorem swoK : Swo ltK := ⟨fun x y h => ltS_asym h, fun x y z h1 h2 => ltS_tr h1 h2⟩
section
variable {prog : Program} {w : World} {A : Around} {E : Value → Shared → Prop} {s : Shared} {a kS : Addr} {vs : List Value} {keys : Array Value} {e e1 : Nat} {P : PySem.Fin → Shared → Prop}
/-- the heap behind the sort -/
def afterK (h : Heap) (kS a : Addr) (out : Array Value) : Heap := (h.update kS (Obj.mapSeq fun _ => (#[] : Array Value))).update a (Obj.mapSeq fun _ => out)
theorem sk_tail {st : SortSt} (nk : s.heap.get? kS = some (seqObj "list" keys e)) (na : s.heap.get? a = some (seqObj "list" #[] e1)) (hka : kS ≠ a) (hsz : keys.size ≤ sizeLine) (hz : (arrOf st).size ≤ sizeLine) (hfl : failedOf st = none)
    (h : P (.done (.ret .none)) { s with heap := afterK s.heap kS a ((arrOf st).map (·.2)) }) : wpAny (model prog w) A (ksk_tail a false e1 (.ref kS) st) P E s := by
  have na1 : (s.heap.update kS (Obj.mapSeq fun _ => (#[] : Array Value))).get? a = some (seqObj "list" #[] e1) := ((Heap.SameBut.update s.heap kS _).2 a hka.symm).trans na
  have hz2 : ((arrOf st).map (·.2)).size ≤ sizeLine + 1 := by
    rw [Array.size_map]
    exact Nat.le_succ_of_le hz
  unfold ksk_tail
  dsimp only
  refine wpAny_bind (listUpdate_at nk rfl ?_ hsz (Nat.zero_le _))
  refine wpAny_bind (wpAny_letGo (wpAny_bind (seqEpoch_at na1 rfl ?_)))
  refine wpAny_bind (listUpdate_at na1 rfl ?_ (Nat.zero_le _) (by rw [if_neg (by decide)]; exact hz2))
  rw [hfl]
  simp only [bne_self_eq_false, Bool.false_eq_true, if_false]
  exact wpAny_pure h
theorem sk_end {ks : List Str} (nk : s.heap.get? kS = some (seqObj "list" keys e)) (na : s.heap.get? a = some (seqObj "list" #[] e1)) (hka : kS ≠ a) (hK : StrsAre keys.toList ks) (hsz : keys.size = vs.length) (hZ : vs.length ≤ sizeLine)
    (h : ∀ ps : List Keyed, ps.Perm (keys.toList.zip vs) → Srtd ltK ps → P (.done (.ret .none)) { s with heap := afterK s.heap kS a (ps.map (·.2)).toArray }) :
    wpAny (model prog w) A (ksk_end a false vs.toArray e1 (.ref kS) keys) P E s := by
  have hs0 : (keys.zip vs.toArray).size = vs.length := by rw [Array.size_zip, hsz, List.size_toArray, Nat.min_self]
  have fin : ∀ st' : SortSt, Srtd ltK (arrOf st').toList → (arrOf st').toList.Perm (keys.zip vs.toArray).toList → failedOf st' = none → wpAny (model prog w) A (ksk_tail a false e1 (.ref kS) st') P E s := by
    intro st' h1 h2 h3
    have hl : (arrOf st').size = vs.length := by
      have := h2.length_eq
      rw [Array.length_toList, Array.length_toList, hs0] at this
      exact this
    refine sk_tail nk na hka (by rw [hsz]; exact hZ) (by rw [hl]; exact hZ) h3 ?_
    have q := h (arrOf st').toList (by rw [← ksk_zip]; exact h2) h1
    rw [← Array.toList_map, Array.toArray_toList] at q
    exact q
  unfold ksk_end
  dsimp only
  rw [if_neg (by decide)]
  by_cases hl2 : vs.toArray.size < 2
  · rw [if_pos hl2, if_pos hl2]
    refine wpAny_bind (wpAny_pure ?_)
    rw [StateT.run_pure]
    refine wpAny_bind (wpAny_pure ?_)
    dsimp only
    refine fin (SortSt.mk' general' (keys.zip vs.toArray) #[] 7 none) ?_ (List.Perm.refl _) rfl
    rw [List.size_toArray] at hl2
    have hl3 : (keys.zip vs.toArray).toList.length < 2 := by
      rw [Array.length_toList, hs0]
      exact hl2
    show List.Pairwise _ (keys.zip vs.toArray).toList
    match (keys.zip vs.toArray).toList, hl3 with
    | [], _ => exact .nil
    | [p], _ => exact List.pairwise_singleton _ _
    | _ :: _ :: _, z => simp only [List.length_cons] at z; omega
  · rw [if_neg hl2, if_neg hl2]
    rw [List.size_toArray] at hl2
    have hkk : keyKind' keys = pure oneType' := by
      have hk2 : 2 ≤ keys.toList.length := by
        rw [Array.length_toList]
        omega
      match q : keys.toList, hk2 with
      | v1 :: v2 :: r, _ =>
        have eq : keys = (v1 :: v2 :: r).toArray := by rw [← q, Array.toArray_toList]
        rw [eq]
        exact keyKind_strs (by rw [← q]; exact hK)
    rw [hkk]
    refine wpAny_bind (wpAny_pure ?_)
    refine wpAny_bind (wpAny_mono (wpS_sortO (P := fun p => p.1 ∈ keys.toList) (lt := ltK) (st0 := SortSt.mk' oneType' (keys.zip vs.toArray) #[] 7 none)
      (Q := fun _ st' => Srtd ltK (arrOf st').toList ∧ Stb ltK (arrOf st').toList (keys.zip vs.toArray).toList ∧ failedOf st' = none) swoK (fun p q hp hq => ?_) rfl (fun p hm => ?_) rfl rfl fun st' a1 a2 a3 => ⟨a1, a2, a3⟩) ?_ fun _ _ z => z)
    · obtain ⟨x, t, ex⟩ := hK.all _ hp
      obtain ⟨y, u, ey⟩ := hK.all _ hq
      rw [keyLt'_oneType, ex, ey]
      refine oneLt_str ⟨rfl, ?_⟩
      show _ = ltS (strOf p.1) (strOf q.1)
      rw [ex, ey]
      rfl
    · have hm' : p ∈ (keys.zip vs.toArray).toList := hm
      rw [ksk_zip] at hm'
      exact (List.of_mem_zip (a := p.1) (b := p.2) hm').1
    rintro ⟨⟨⟩, st'⟩ s' ⟨rfl, hp1, hp2, hf⟩
    exact fin st' hp1 hp2.perm hf
end
/-- behind some calls of the key and some writes at an own object: what is kept of the start -/
structure Beh (P : Program) (w : World) (fs : List Addr) (H : Hp) (s s' : Shared) : Prop where
  os : s'.os = s.os
  bare : AllBare s'.gens
  un : Un fs [] H H s.heap s'.heap
  hok : HOk P w H s'.heap
theorem Beh.at {P : Program} {w : World} {fs : List Addr} {H : Hp} {s s' : Shared} {c : Addr} {h' : Heap} (B : Beh P w fs H s s') (hc : s.heap.get? c = none) (hn : H c = none) (k : ∀ b o, b ≠ c → s'.heap.get? b = some o → h'.get? b = some o) : Beh P w fs H s { s' with heap := h' } := by
  have nc : ∀ b o, s.heap.get? b = some o → b ≠ c := fun b o e z => by rw [z, hc] at e; cases e
  refine ⟨B.os, B.bare, ⟨fun b o e n hb hx => k b o (nc b o e) (B.un.keep b o e n hb hx), fun b o e n hb hx => ?_, fun b o e n hx => n, fun b o e hx => ?_, fun _ _ e => e, fun _ _ _ e => e, fun b ps e => ⟨#[], by rw [e]; simp⟩⟩, fun b u e => ?_⟩
  · obtain ⟨sl, e1⟩ := B.un.slot b o e n hb hx
    exact ⟨sl, k b _ (nc b o e) e1⟩
  · obtain ⟨o', e1⟩ := B.un.there b o e hx
    exact ⟨o', k b o' (nc b o e) e1⟩
  · refine (B.hok b u e).stay (fun d v hd q => k d v (fun z => ?_) q) (fun _ q => q) fun _ _ q => q
    rcases hd with y | y
    · rw [← y, z, hn] at e; cases e
    · rw [z, hn] at y; cases y
/-- the items are told by what they stand for; a key of that -/
def rSortK {α : Type} (key : α → Str) (K : PySem.W.Frag) (sp : Sp) (f : Addr) : List V → List V → Hp → VK → Prop := fun vs ws H Q => ∃ (a : Addr) (zs : List (V × α)), vs = [V.ref a] ∧ ws = [V.ref f] ∧ SqL K H a (zs.map (·.1)) ∧
  (∀ z ∈ zs, sp [z.1] H (fun v H' => v = .str (key z.2) ∧ H' = H) (fun _ _ _ => False)) ∧ ∀ p (ys : List (V × α)), H p = none → ys.Perm zs → ys.Pairwise (fun x y => ltS (key y.2) (key x.2) = false) → Q (.ref p) (upd H p (.lst (ys.map (·.1))))
theorem strs_of : ∀ {xs : List Str} {us : List Value}, Vals (xs.map V.str) us → StrsAre us xs
  | [], _, r => by
    cases r
    exact .nil
  | x :: xs, _, r => by
    cases r with
    | cons h t =>
      obtain ⟨tk, rfl⟩ := h
      exact .cons _ _ (strs_of t)
theorem vals_snoc {xs : List V} {us : List Value} {x : V} {u : Value} (r : Vals xs us) (h : RelV x u) : Vals (xs ++ [x]) (us ++ [u]) := r.append (.cons h .nil)
theorem vals_get : ∀ {xs : List V} {us : List Value}, Vals xs us → ∀ (i : Nat) (u : Value), us[i]? = some u → ∃ x, xs[i]? = some x ∧ RelV x u
  | _, _, .nil, i, u, h => by simp at h
  | _, _, .cons r rs, 0, u, h => by
    simp only [List.getElem?_cons_zero, Option.some.injEq] at h
    subst h
    exact ⟨_, rfl, r⟩
  | _, _, .cons r rs, i + 1, u, h => by
    simp only [List.getElem?_cons_succ] at h ⊢
    exact vals_get rs i u h

section
variable {X : Cx} {sp : Sp} {k : Nat} {f : Addr} {fd : FuncData} {ps : List Str} {α : Type} {key : α → Str}
theorem sk_loop {pins : List (Addr × Obj)} {σ : L2.St} {H : Hp} {s s0 : Shared} {xs : List (V × α)} {us : List Value} {a kS : Addr} {e1 : Nat} {P : PySem.Fin → Shared → Prop} {E : Value → Shared → Prop}
    (F : FnOk X.prog X.w X.K X.mg X.base CX0 k f fd ps sp) (hr : Room k X.A.in1.in1) (hb : Binds X.K fd ps []) (I : Inv X pins σ H s) (r : Vals (xs.map (·.1)) us) (hz : us.length ≤ sizeLine)
    (hsp : ∀ x ∈ xs, sp [x.1] H (fun v H' => v = .str (key x.2) ∧ H' = H) (fun _ _ _ => False))
    (ha : s.heap.objs.size ≤ a) (hk : s.heap.objs.size ≤ kS) (hka : kS ≠ a) (B : Beh X.prog X.w (frs X.stack) H s s0) (nk : s0.heap.get? kS = some (seqObj "list" #[] 0)) (na : s0.heap.get? a = some (seqObj "list" #[] e1))
    (h : ∀ s' (qs : List Keyed) n (kl : List Value), Vals (xs.map fun x => V.str (key x.2)) kl → qs.Perm (kl.zip us) → Srtd ltK qs → Beh X.prog X.w (frs X.stack) H s s' → s'.heap.get? a = some (seqObj "list" (qs.map (·.2)).toArray n) → P (.done (.ret .none)) s') :
    wpAny (model X.prog X.w) X.A.in1.in1 (ksk_rest a (.ref f) false us.toArray e1 (.ref kS)) P E s0 := by
  have fa : H a = none := I.hok.fresh ha
  have fk : H kS = none := I.hok.fresh hk
  have ga : s.heap.get? a = none := Heap.get?_none_of_le ha
  have gk : s.heap.get? kS = none := Heap.get?_none_of_le hk
  have inv : ∀ s', Beh X.prog X.w (frs X.stack) H s s' → Inv X pins σ H s' := fun s' B => I.call' B.os B.un B.hok B.bare (fun b z => absurd z (by simp))
  have nfs : ∀ b, s.heap.objs.size ≤ b → b ∉ frs X.stack := fun b hle hb => by
    obtain ⟨_, o, ho, _⟩ := I.stack.mem hb
    exact absurd (Nat.lt_of_lt_of_le (Heap.lt_size ho) hle) (Nat.lt_irrefl _)
  unfold ksk_rest
  refine wpAny_bind (wpAny_rule ?_)
  first
    | rw [List.forIn_toArray]
    | (rw [← Array.forIn_toList]; simp only [List.toList_toArray])
    | rw [← Array.forIn_toList]
  refine wpAny_bind (ksk_fold (fun i s' => Beh X.prog X.w (frs X.stack) H s s' ∧ s'.heap.get? a = some (seqObj "list" #[] e1) ∧ ∃ kA e, s'.heap.get? kS = some (seqObj "list" kA e) ∧ Vals ((xs.take i).map fun x => V.str (key x.2)) kA.toList) us 0 s0
    ⟨B, na, #[], 0, nk, by simp only [List.take_zero, List.map_nil]; exact .nil⟩ ?step ?done)
  case step =>
    rintro j u s' hu ⟨B', na', kA, e, nk', hkv⟩
    simp only [Nat.zero_add] at hkv ⊢
    obtain ⟨x1, hx1, rx⟩ := vals_get r j u hu
    obtain ⟨x, hx, rfl⟩ : ∃ x, xs[j]? = some x ∧ x.1 = x1 := by
      rw [List.getElem?_map] at hx1
      cases q : xs[j]? with
      | none => rw [q] at hx1; cases hx1
      | some x => rw [q] at hx1; exact ⟨x, rfl, Option.some.inj hx1⟩
    have hxm : x ∈ xs := List.mem_of_getElem? hx
    have I' := inv s' B'
    have hl := r.length
    rw [List.length_map] at hl
    have hj : j < us.length := (List.getElem?_eq_some_iff.mp hu).1
    have hsz : kA.size ≤ us.length := by
      have h1 := hkv.length.trans Array.length_toList
      rw [List.length_map, List.length_take] at h1
      omega
    have hlen : ([u] ++ []).length = ps.length := F.len _ _ _ _ (hsp x hxm)
    refine wpAny_bind (wpAny_attempt (wpAny_mono (wpAny_call (E := fun _ _ => False) (codeAny_mono (F.run X.A.in1.in1 X.stack s' H ⟨[u], []⟩ ([u] ++ []) [x.1] _ (fun _ _ _ => False) hr I'.env0.in1.in1 (hb s' [u] I'.kIn hlen) (.cons rx .nil) (hsp x hxm)) fun rr s'' hq => ?_)) (Q := fun v s'' => (∃ t, v = Value.str (key x.2) t) ∧ s''.os = s'.os ∧ AllBare s''.gens ∧ Un (frs X.stack) [] H H s'.heap s''.heap ∧ HOk X.prog X.w H s''.heap) (fun v s'' hv => ?_) fun _ _ hF => hF.elim))
    · cases rr with
      | error e => exact hq
      | ok fl =>
        cases fl with
        | ret u' =>
          obtain ⟨v, H', os, bare, un, hok, rv, rfl, rfl⟩ := hq
          exact ⟨rv, os, bare, un, hok⟩
        | next => exact False.elim hq
        | brk => exact False.elim hq
        | cont => exact False.elim hq
    · obtain ⟨⟨t, rfl⟩, os, bare, un, hok⟩ := hv
      have B2 : Beh X.prog X.w (frs X.stack) H s s'' := ⟨os.trans B'.os, bare, B'.un.trans un, hok⟩
      have nk2 := un.keep _ _ nk' fk (nfs _ hk) (by simp)
      have na2 := un.keep _ _ na' fa (nfs _ ha) (by simp)
      dsimp only
      have s1 := Heap.SameBut.update s''.heap kS (Obj.mapSeq (·.push (.str (key x.2) t)))
      obtain ⟨c2, hc2⟩ : ∃ c2, (s''.heap.update kS (Obj.mapSeq (·.push (.str (key x.2) t)))).get? kS = some (seqObj "list" (kA.push (.str (key x.2) t)) c2) := ⟨_, get?_update_seq nk2 (·.push (.str (key x.2) t))⟩
      refine wpAny_bind (listUpdate_at nk2 rfl ?_ (Nat.le_trans hsz hz) (Nat.le_trans (Nat.le_of_eq (Array.size_push ..)) (Nat.succ_le_succ (Nat.le_trans hsz hz))))
      refine wpAny_pure ⟨rfl, B2.at gk fk (fun b o hb q => (s1.2 b hb).trans q), (s1.2 a hka.symm).trans na2, _, c2, hc2, ?_⟩
      rw [List.take_add_one, hx, Array.toList_push]
      simp only [Option.toList_some, List.map_append, List.map_cons, List.map_nil]
      exact vals_snoc hkv ⟨t, rfl⟩
  case done =>
    rintro s' ⟨B', na', kA, e, nk', hkv⟩
    have hl := r.length
    rw [List.length_map] at hl
    have hk2 : Vals (xs.map fun x => V.str (key x.2)) kA.toList := by
      rw [List.take_of_length_le (by omega)] at hkv
      exact hkv
    have hsz : kA.size = us.length := by
      have h1 := hk2.length.trans Array.length_toList
      rw [List.length_map] at h1
      omega
    refine wpAny_bind (listItems_at nk' rfl ?_)
    refine sk_end (ks := xs.map fun z => key z.2) nk' na' hka (strs_of (by rw [List.map_map]; exact hk2)) hsz hz fun qs hp hs => ?_
    have s1 := Heap.SameBut.update s'.heap kS (Obj.mapSeq fun _ => (#[] : Array Value))
    have s2 := Heap.SameBut.update (s'.heap.update kS (Obj.mapSeq fun _ => (#[] : Array Value))) a (Obj.mapSeq fun _ => (qs.map (·.2)).toArray)
    have na1 := (s1.2 a hka.symm).trans na'
    exact h _ qs _ kA.toList hk2 hp hs ((B'.at gk fk (fun b o hb q => (s1.2 b hb).trans q)).at ga fa (fun b o hb q => (s2.2 b hb).trans q)) (get?_update_seq na1 fun _ => (qs.map (fun z : Keyed => z.2)).toArray)
/-- sorted(xs, key=def) -/
theorem cr_sortK (F : FnOk X.prog X.w X.K X.mg X.base CX0 k f fd ps sp) (hr : Room (k + 2) X.A) (hb : Binds X.K fd ps []) : CallRK X (.builtin "sorted") [Str.ofString "key"] (rSortK key X.K sp f) := by
  intro pins s σ H vs zs us ws Q I r rz h
  obtain ⟨a, xs, rfl, rfl, hs, hsp, q⟩ := h
  obtain rfl := Vals.ref1 r
  obtain ⟨w1, rfl, z1⟩ := vals1 rz
  obtain rfl : w1 = Value.ref f := z1
  obtain ⟨its, rv, hl, hz⟩ := I.list hs
  have hzl : its.length ≤ sizeLine := by rw [← rv.length]; exact hz
  refine PySem.W.sorted_of_sort hl.isList hzl (ksk_s1 _ _) (fun _ => ksk_l1 _ _) fun E' => ?_
  show wpAny _ _ (Builtin.«list.sort» ⟨[.ref (s.heap.objs.size + 1)], [(Str.ofString "key", .ref f)]⟩) _ _ _
  rw [ksk_t1]
  have hc := PySem.W.copyHeap_at s.heap its
  have hsz : (PySem.W.copyHeap s.heap its).objs.size = s.heap.objs.size + 2 := by
    unfold PySem.W.copyHeap
    rw [size_push', Heap.size_update, size_push']
  obtain ⟨e1, ho1⟩ : ∃ e1, ((PySem.W.copyHeap s.heap its).update (s.heap.objs.size + 1) (Obj.mapSeq fun _ => (#[] : Array Value))).get? (s.heap.objs.size + 1) = some (seqObj "list" #[] e1) := ⟨_, get?_update_seq hc fun _ => #[]⟩
  have hS : ((((PySem.W.copyHeap s.heap its).update (s.heap.objs.size + 1) (Obj.mapSeq fun _ => (#[] : Array Value))).push (seqObj "tuple" its.toArray 0))).objs.size = s.heap.objs.size + 3 := by
    rw [size_push', Heap.size_update, hsz]
  unfold ksk_tree
  refine wpAny_bind (listItems_at hc rfl ?_)
  refine wpAny_bind (listUpdate_at hc rfl ?_ (by rw [List.size_toArray]; exact hzl) (Nat.zero_le _))
  refine wpAny_bind (seqEpoch_at ho1 rfl ?_)
  refine wpAny_bind (wpAny_newTuple ?_ (by show its.length ≤ _; exact hzl))
  refine wpAny_bind (wpAny_newList ?_ (Nat.zero_le _))
  refine wpAny_holding ?_
  have old : ∀ b o, s.heap.get? b = some o → ((((PySem.W.copyHeap s.heap its).update (s.heap.objs.size + 1) (Obj.mapSeq fun _ => (#[] : Array Value))).push (seqObj "tuple" its.toArray 0)).push (seqObj "list" #[] 0)).get? b = some o := fun b o e =>
    Heap.get?_push_of_some _ (Heap.get?_push_of_some _ ((Heap.get?_update_ne _ _ _ _ (Nat.ne_of_lt (Nat.lt_succ_of_lt (Heap.lt_size e)))).trans (PySem.W.copyHeap_old e)))
  refine sk_loop (s := s) (s0 := { s with heap := (((PySem.W.copyHeap s.heap its).update (s.heap.objs.size + 1) (Obj.mapSeq fun _ => (#[] : Array Value))).push (seqObj "tuple" its.toArray 0)).push (seqObj "list" #[] 0) })
    (kS := (((PySem.W.copyHeap s.heap its).update (s.heap.objs.size + 1) (Obj.mapSeq fun _ => (#[] : Array Value))).push (seqObj "tuple" its.toArray 0)).objs.size) (key := key) F hr.in1.in1 hb I rv hzl hsp (Nat.le_succ _) (by rw [hS]; omega) (Nat.ne_of_gt (by rw [hS]; omega))
    ⟨rfl, I.bare, Un.kept old, I.hok.kept old⟩ (Heap.get?_push_size _ rfl) (Heap.get?_push_of_some _ (Heap.get?_push_of_some _ ho1)) fun s' qs n kl hv hp hso B hD => ⟨rfl, ?_⟩
  have hf : H (s.heap.objs.size + 1) = none := I.hok.fresh (Nat.le_succ _)
  have hg : s.heap.get? (s.heap.objs.size + 1) = none := Heap.get?_none_of_le (Nat.le_succ _)
  have hkl : kl.length = its.length := by
    rw [← hv.length, List.length_map, ← rv.length, List.length_map]
  obtain ⟨ps', hp1, hp2⟩ : ∃ ys : List (V × α), ys.Perm xs ∧ Vals (ys.map (·.1)) (qs.map (·.2)) ∧ (qs.map fun z => strOf z.1) = ys.map fun z => key z.2 := by
    have e1 : ∀ (xs : List (V × α)) (kl us : List Value), Vals (xs.map fun x => V.str (key x.2)) kl → Vals (xs.map (·.1)) us → ∃ zs : List ((V × α) × Keyed), zs.map (·.1) = xs ∧ zs.map (·.2) = kl.zip us ∧ ∀ z ∈ zs, RelV z.1.1 z.2.2 ∧ strOf z.2.1 = key z.1.2 := by
      intro xs
      induction xs with
      | nil =>
        intro kl us h1 h2
        cases h1
        cases h2
        exact ⟨[], rfl, rfl, fun z hz => absurd hz (by simp)⟩
      | cons x xs ih =>
        intro kl us h1 h2
        cases h1 with
        | cons a1 b1 =>
          cases h2 with
          | cons a2 b2 =>
            obtain ⟨zs, z1, z2, z3⟩ := ih _ _ b1 b2
            obtain ⟨t, rfl⟩ := a1
            refine ⟨(x, _) :: zs, by rw [List.map_cons, z1], by rw [List.map_cons, z2]; rfl, fun z hz => ?_⟩
            rcases List.mem_cons.mp hz with rfl | hz
            · exact ⟨a2, rfl⟩
            · exact z3 z hz
    obtain ⟨zs, z1, z2, z3⟩ := e1 xs kl its hv rv
    have e2 : ∀ (qs : List Keyed) (zs : List ((V × α) × Keyed)), qs.Perm (zs.map (·.2)) → ∃ zs' : List ((V × α) × Keyed), zs'.Perm zs ∧ zs'.map (·.2) = qs := by
      intro qs
      induction qs with
      | nil =>
        intro zs hp
        have := hp.symm.eq_nil
        exact ⟨[], by rw [List.map_eq_nil_iff.mp this], rfl⟩
      | cons q qs ih =>
        intro zs hp
        have hm : q ∈ zs.map (·.2) := hp.mem_iff.mp List.mem_cons_self
        obtain ⟨z, hz, rfl⟩ := List.mem_map.mp hm
        obtain ⟨l1, l2, rfl⟩ := List.append_of_mem hz
        have hp2 : qs.Perm ((l1 ++ l2).map (·.2)) := by
          refine List.Perm.cons_inv (a := z.2) (hp.trans ?_)
          rw [List.map_append, List.map_cons, List.map_append]
          exact List.perm_middle
        obtain ⟨zs', p1, p2⟩ := ih _ hp2
        exact ⟨z :: zs', (p1.cons z).trans List.perm_middle.symm, by rw [List.map_cons, p2]⟩
    obtain ⟨zs', p1, p2⟩ := e2 qs zs (by rw [z2]; exact hp)
    have z4 : ∀ z ∈ zs', RelV z.1.1 z.2.2 ∧ strOf z.2.1 = key z.1.2 := fun z hz => z3 z (p1.mem_iff.mp hz)
    refine ⟨zs'.map (·.1), by rw [← z1]; exact p1.map _, ?_, ?_⟩
    · rw [← p2]
      clear p1 p2 z3 z1 z2
      induction zs' with
      | nil => exact .nil
      | cons z zs' ih => exact .cons (z4 z List.mem_cons_self).1 (ih fun y hy => z4 y (List.mem_cons_of_mem _ hy))
    · rw [← p2, List.map_map, List.map_map]
      exact List.map_congr_left fun z hz => (z4 z hz).2
  obtain ⟨hp2, hp3⟩ := hp2
  have hlen : ps'.length ≤ sizeLine := by
    rw [hp1.length_eq]
    rw [List.length_map] at hz
    exact hz
  have hpw : ps'.Pairwise (fun x y => ltS (key y.2) (key x.2) = false) := by
    have h1 : (qs.map fun z => strOf z.1).Pairwise (fun x y => ltS y x = false) := List.pairwise_map.mpr hso
    rw [hp3] at h1
    exact List.pairwise_map.mp h1
  refine ⟨.ref _, upd H (s.heap.objs.size + 1) (.lst (ps'.map (·.1))), ?_, rfl, q _ _ hf hp1 hpw⟩
  refine I.call' (ch := []) B.os ⟨B.un.keep, B.un.slot, fun b o e n hx => ?_, B.un.there, fun b x e => ?_, fun b o u e => ?_, fun b x e => ?_⟩ (HOk.laidN B.hok (fun _ _ e => e) hf ⟨by rw [List.length_map]; exact hlen, _, n, hp2, hD⟩) B.bare (fun b z => absurd z (by simp))
  · rw [upd_ne fun z => by rw [z, hg] at e; cases e]
    exact n
  · rw [upd_ne (ne_of_none e hf)]
    exact e
  · rw [upd_ne (ne_of_none e hf)]
    exact e
  · exact ⟨#[], by rw [upd_ne (ne_of_none e hf), e]; simp⟩
end
/-- two lists that are sorted by a key that tells the items, of the same items -/
theorem srt_uniq {α : Type} {key : α → Str} : ∀ {xs ys : List α}, (∀ x ∈ xs, ∀ y ∈ xs, key x = key y → x = y) → xs.Perm ys → xs.Pairwise (fun x y => ltS (key y) (key x) = false) → ys.Pairwise (fun x y => ltS (key y) (key x) = false) → xs = ys
  | [], ys, _, p, _, _ => (p.symm.eq_nil).symm
  | x :: xs, [], _, p, _, _ => absurd p.length_eq (by simp)
  | x :: xs, y :: ys, inj, p, h1, h2 => by
    have hx := List.pairwise_cons.mp h1
    have hy := List.pairwise_cons.mp h2
    have e : x = y := by
      rcases List.mem_cons.mp (p.mem_iff.mp List.mem_cons_self) with e | m
      · exact e
      · rcases List.mem_cons.mp (p.mem_iff.mpr List.mem_cons_self) with e | m'
        · exact e.symm
        · exact inj x List.mem_cons_self y (List.mem_cons_of_mem _ m') (ltS_tot (hy.1 x m) (hx.1 y m'))
    subst e
    rw [srt_uniq (fun a ha b hb => inj a (List.mem_cons_of_mem _ ha) b (List.mem_cons_of_mem _ hb)) p.cons_inv hx.2 hy.2]
end Tk
namespace PySem
open Sem (wp)
open AutoSeq1 (wpAny_loadPart')
/-- enumerate of a tuple: its two cells -/
theorem meets_enumerate_newT (l : Addr) (items : Array Value) (ob : Obj) (hob : ob.cls = .type "tuple") (hdt : ∃ n, ob.data = .seq items n) :
    Meets (Builtin.«enumerate.__new__» ⟨[.type "enumerate", .ref l], []⟩) (fun _ R s => s.heap.get? l = some ob ∧
      R (.ok (.ret (.ref (s.heap.push { cls := .type "tuple_iterator", data := .fields #[.ref l, .int 0 0] }).objs.size)))
        { s with heap := (s.heap.push { cls := .type "tuple_iterator", data := .fields #[.ref l, .int 0 0] }).push { cls := .type "enumerate", data := .fields #[.none, .bool false, .ref s.heap.objs.size, rawInt 0, .none, .none] } }) :=
  .of_wp fun prog w A R s h => by
    obtain ⟨hp, g, d, tk, os⟩ := s; obtain ⟨hl, h⟩ := h
    have hsub := sub_enumerate
    have hL : Heap.IsTuple (Shared.heap ⟨hp, g, d, tk, os⟩) l items := by
      obtain ⟨n, e⟩ := hdt
      exact ⟨ob, hl, hob, n, e⟩
    wp_walk using wpAny_loadPart' hl
    refine wpAny_stack_any fun st => wpAny_pure ?_
    split
    · rename_i c _ _ _ _ _
      cases (c == Value.type "enumerate") <;> (wp_walk using wpAny_loadPart' hl, wpAny_pyIter_tuple hL; exact ⟨_, rfl, h⟩)
    · wp_walk using wpAny_loadPart' hl, wpAny_pyIter_tuple hL; exact ⟨_, rfl, h⟩
end PySem
namespace PySem
section
variable {prog : Program} {w : World} {A : Around} {E : Value → Shared → Prop} {s : Shared}
theorem call_enumerate_tuple {l : Addr} {items : Array Value} {Q : Value → Shared → Prop} (hL : s.heap.IsTuple l items)
    (h : ∀ h', IsEnum h' (s.heap.objs.size + 1) s.heap.objs.size 0 .none → h'.IsTupleIter s.heap.objs.size l 0 → h'.objs.size = s.heap.objs.size + 2 →
      (∀ b o, s.heap.get? b = some o → h'.get? b = some o) → Q (.ref (s.heap.objs.size + 1)) { s with heap := h' }) : wpAny (model prog w) A (call (.type "enumerate") [.ref l]) Q E s := by
  obtain ⟨ob, hl, hc, hd⟩ := hL
  refine callType_new F.called_enumerate (by decide) (F.typeCall_enumerate_1 _) (F.newCall_enumerate_1 _) (fun obj => F.args_object_init_2 obj _) F.entry_enumerate_new (meets_enumerate_newT l items ob hc hd) ⟨hl, ?_⟩
  have z1 : (s.heap.push { cls := .type "tuple_iterator", data := .fields #[.ref l, .int 0 0] }).objs.size = s.heap.objs.size + 1 := Heap.size_push ..
  show _ ∧ _
  rw [z1]
  have he : IsEnum ((s.heap.push { cls := .type "tuple_iterator", data := .fields #[.ref l, .int 0 0] }).push
      { cls := .type "enumerate", data := .fields #[.none, .bool false, .ref s.heap.objs.size, rawInt 0, .none, .none] }) (s.heap.objs.size + 1) s.heap.objs.size 0 .none := by
    have q := Heap.get?_push_size (s.heap.push { cls := .type "tuple_iterator", data := .fields #[.ref l, .int 0 0] }) (o := { cls := .type "enumerate", data := .fields #[.none, .bool false, .ref s.heap.objs.size, rawInt 0, .none, .none] }) rfl
    rw [z1] at q
    exact q
  exact ⟨⟨_, he, rfl⟩, h _ he ⟨_, Heap.get?_push_of_some _ (Heap.get?_push_size _ rfl), rfl, rfl⟩ (by rw [Heap.size_push, z1]) fun b o x => Heap.get?_push_of_some _ (Heap.get?_push_of_some _ x)⟩
end
end PySem
namespace Tk
open PySem PySem.Spec PyProof.Rows L2
open Evl (Ex ex_l ex_t ex_rd sq_of st_of fresh_back)
/-! ### a list or a tuple, walked -/
/-- what is known of the walk: over xs, that stand in G -/
def Over (K : PySem.W.Frag) (a : Addr) (xs : List V) (H1 : Hp) (R : It → Hp → Prop) : Prop := ∃ G, Seq K G a xs ∧ Ex G H1 ∧ ∀ J Gd, Walk J xs.length Gd (YAt xs) → (∀ H', Ex G H' → Gd H') → R J H1
def iQ (K : PySem.W.Frag) (tl : TE) : TI := fun σ H R => tl σ H fun x H1 => ∃ a xs, x = .ref a ∧ Over K a xs H1 R
theorem pi_q {X : Cx} {tg l : Expr} {tl : TE} (hl : PE X l tl) : PI X tg l (iQ X.K tl) := by
  refine ⟨fun pins s σ H R I h => ?_⟩
  refine thn (hl.run pins s σ H _ I h) fun v s1 ⟨x, H1, I1, r1, a, xs, hx, G, hs, e, q⟩ => ?_
  subst hx
  cases r1
  have fp : ∀ b ∈ [s1.heap.objs.size], FpOk X pins H1 b := fun b hb => by
    rw [List.mem_singleton.mp hb]
    exact I1.fpOk (Nat.le_refl _) (I1.hok.fresh (Nat.le_refl _))
  rcases hs with hs | hs
  · obtain ⟨its, rv, p, hz⟩ := I1.list (ex_l e hs)
    refine wpAny_pyIter_list p.isList ⟨s1.heap.objs.size, [s1.heap.objs.size], _, _, H1, rfl, I1.kept (t' := s1.toks) fun b o z => Heap.get?_push_of_some _ z, turn_list a _, ⟨_, Heap.get?_push_size _ rfl, rfl, rfl⟩, fp, ?_⟩
    exact q _ _ walk_list fun H' e' => ex_l e' hs
  · obtain ⟨its, rv, p, hz⟩ := I1.tuple (ex_t e hs)
    refine wpAny_pyIter_tuple (show s1.heap.IsTuple a its.toArray from p) ⟨s1.heap.objs.size, [s1.heap.objs.size], _, _, H1, rfl, I1.kept (t' := s1.toks) fun b o z => Heap.get?_push_of_some _ z, turn_tuple a _, ⟨_, Heap.get?_push_size _ rfl, rfl, rfl⟩, fp, ?_⟩
    exact q _ _ walk_tup fun H' e' => ex_t e' hs
theorem g_iq {K : PySem.W.Frag} {tl : TE} {σ : L2.St} {H : Hp} {R : It → Hp → Prop} (h : tl σ H fun x H1 => ∃ a xs, x = .ref a ∧ Over K a xs H1 R) : iQ K tl σ H R := h
theorem over_of {K : PySem.W.Frag} {a : Addr} {xs : List V} {H1 G : Hp} {R : It → Hp → Prop} (hs : Seq K G a xs) (e : Ex G H1) (h : ∀ J Gd, Walk J xs.length Gd (YAt xs) → (∀ H', Ex G H' → Gd H') → R J H1) : ∃ b ys, V.ref a = .ref b ∧ Over K b ys H1 R := ⟨a, xs, rfl, G, hs, e, h⟩
/-! ### enumerate -/
/-- the tuple at a, each item with its place in a new pair -/
def IteT (K : PySem.W.Frag) (a : Addr) : It :=
  ⟨fun i H => ∃ (xs : List V) (x : V), SqT K H a xs ∧ xs[i]? = some x, fun i H v H' => ∃ T x, v = .ref T ∧ H T = none ∧ H' = upd H T (.tup [.int (i : Nat), x]) ∧ ∀ xs, SqT K H a xs → xs[i]? = some x,
    fun i H => ∃ xs : List V, SqT K H a xs ∧ xs.length ≤ i⟩
theorem turn_enumT {P : Program} {w : World} {K : PySem.W.Frag} {elts : List Expr} {kk : Nat} {tpos : Pos} (a e it : Addr) (hai : a ≠ it) (hea : e ≠ a) :
    Turn P w K (.Tuple elts kk tpos) (IteT K a) [e, it] e (fun i h => (∃ old, IsEnum h e it ((i : Nat) : Int) old) ∧ h.IsTupleIter it a i ∧ e ≠ it) where
  mem := by simp
  obj := fun i h st b hb => by
    obtain ⟨⟨old, he⟩, ⟨o, ho, _, hd⟩, _⟩ := st
    rcases List.mem_cons.mp hb with rfl | hb
    · exact ⟨_, he, fun v q => nomatch q⟩
    · rw [List.mem_singleton.mp hb]
      exact ⟨o, ho, fun v q => by rw [hd] at q; cases q⟩
  keep := fun i h h' st k => by
    obtain ⟨⟨old, he⟩, hi, hne⟩ := st
    exact ⟨⟨old, k e (by simp) _ he⟩, hi.at fun o q => k it (by simp) o q, hne⟩
  item := by
    intro X hP hw hK hc i pins s σ H E I hf st hg
    subst hP hw hK
    obtain ⟨⟨old, he⟩, hit, hne⟩ := st
    obtain ⟨xs, x, hq, hx⟩ := hg
    obtain ⟨its, rv, p, _⟩ := I.tuple hq
    obtain ⟨u, hu, ru⟩ := rv.get hx
    have lte : e < s.heap.objs.size := Heap.lt_size he
    have lti : it < s.heap.objs.size := by obtain ⟨_, q, _⟩ := hit; exact Heap.lt_size q
    have hu2 : its.toArray[i]? = some u := by simpa using hu
    have hlt : i < its.toArray.size := (Array.getElem?_eq_some_iff.mp hu2).1
    refine wpAny_pyNext_enum_itemD (Draws.tuple (A := X.A.in1) (I.ok.hd hc) it a hai its.toArray) he ⟨hit, p⟩ hlt hne (by simp [hne, hea]) fun y h' tk hy ho st' hT hsz hk => ?_
    have ey : y = u := by
      rw [hu2] at hy
      exact (Option.some.inj hy).symm
    subst ey
    obtain ⟨hit', _⟩ := st'
    refine ⟨_, rfl, wpAny_letOwnedTupleGo_enum (s := { s with heap := h', toks := tk + 1 }) ho fun h'' he' sb => ?_⟩
    have hT2 : h''.get? s.heap.objs.size = some { cls := .type "tuple", data := .seq #[.int i tk, y] } := (sb.2 _ (Nat.ne_of_gt lte)).trans hT
    have new : ObjOk X.prog X.w (upd H s.heap.objs.size (.tup [.int (i : Nat), x])) h'' s.heap.objs.size (.tup [.int (i : Nat), x]) :=
      ⟨by show 2 ≤ sizeLine; decide, [.int i tk, y], .cons ⟨_, rfl⟩ (.cons ru .nil), ⟨_, hT2, rfl, _, rfl⟩⟩
    have I1 : Inv X pins σ (upd H s.heap.objs.size (.tup [.int (i : Nat), x])) { s with heap := h'', toks := tk + 1 } :=
      I.turnedNew (ch := [e, it]) (fun b ob hb q => (sb.2 b (fun z => hb (by simp [z]))).trans (hk b ob (fun z => hb (by simp [z])) (fun z => hb (by simp [z])) q)) hf (Nat.le_refl _) new
    refine ⟨.ref s.heap.objs.size, _, I1, rfl, ⟨_, x, rfl, I.hok.fresh (Nat.le_refl _), rfl, fun ys hy => by rw [I.tuple_inj hy hq]; exact hx⟩, ⟨⟨y, ?_⟩, hit'.at fun o q => (sb.2 it (Ne.symm hne)).trans q, hne⟩, fun b hb => ?_⟩
    · rw [show ((i + 1 : Nat) : Int) = (i : Int) + 1 by omega]
      exact he'
    · have hb' : b < s.heap.objs.size := by
        rcases List.mem_cons.mp hb with rfl | hb
        · exact lte
        · rw [List.mem_singleton.mp hb]; exact lti
      rw [upd_ne (Nat.ne_of_lt hb')]
      exact (hf b hb).1
  done := by
    intro X hP hw hK hc i pins s σ H E I hf st hg
    subst hP hw hK
    obtain ⟨⟨old, he⟩, hit, hne⟩ := st
    obtain ⟨xs, hq, hx⟩ := hg
    obtain ⟨its, rv, p, hz⟩ := I.tuple hq
    obtain ⟨f0, f1, f2, f3, f4, f5⟩ := hf it (by simp)
    have hl := rv.length
    have D : Draws X.prog X.w X.A.in1 it [it, a] i (fun _ v => False) (fun j h => j = i ∧ h.IsTupleIter it a j ∧ h.IsTuple a its.toArray) := by
      refine ⟨fun j h st => ?_, fun j h h' st k => ?_, fun j s Q E hj st hQ => ?_, fun s Q E st hE => ?_⟩
      · obtain ⟨_, ⟨o, ho, _⟩, _⟩ := st
        exact ⟨o, ho⟩
      · exact ⟨st.1, st.2.1.at fun o z => k it (by simp) o z, st.2.2.at fun o z => k a (by simp) o z⟩
      · have := st.1
        omega
      · exact wpAny_nextOf_tuple_end (I.ok.hd hc) st.2.1 st.2.2 (by simp; omega) hE
    exact wpAny_pyNext_enum_endD D he ⟨rfl, hit, p⟩ fun h' eb => ⟨rfl, I.turned (t' := s.toks) (fun b o hb q => eb b o hb q) f0 f1 f3 f4 f5⟩
  self := fun A i s Q E st h => wpAny_pyIter_enum st.1.choose_spec h
theorem walk_enumT {K : PySem.W.Frag} {a : Addr} {xs : List V} : Walk (IteT K a) xs.length (fun H => SqT K H a xs) (YPair (fun i => some (.int (i : Nat))) (fun i => xs[i]?)) := by
  refine ⟨fun i _ hi q => ⟨xs, xs[i], q, by simp [hi]⟩, fun _ q => ⟨xs, q, Nat.le_refl _⟩, fun i H v H' _ q y => ?_⟩
  obtain ⟨T, x, h1, h2, h3, h4⟩ := y
  exact ⟨T, .int (i : Nat), x, h1, h2, h3, rfl, h4 xs q⟩
/-- enumerate of a list or a tuple -/
def iEnQ (K : PySem.W.Frag) (ta : TA) : TI := fun σ H R => ta σ H fun vs H1 => ∃ a xs G, vs = [.ref a] ∧ Seq K G a xs ∧ Ex G H1 ∧ ∀ J Gd, Walk J xs.length Gd (YPair (fun i => some (.int (i : Nat))) (fun i => xs[i]?)) → (∀ H', Ex G H' → Gd H') → R J H1
theorem pi_enumQ {X : Cx} {e : Expr} {ta : TA} {p pos tpos : Pos} {elts : List Expr} {kk : Nat} (hg : Gl X "enumerate") (hm : X.mg "enumerate" = none) (ha : PA X [e] ta) (hs : starEach [e] X.env = [(false, eval e X.env)] := by rfl) :
    PI X (.Tuple elts kk tpos) (.Call (.Name "enumerate" p) [e] [] pos) (iEnQ X.K ta) := by
  refine ⟨fun pins s σ H R I h => ?_⟩
  refine Call_ (ld_blt I hg hm boot_enumerate (PyProof.Rows.callWith_type1 (thn (ha.run pos pins s σ H _ I h) fun us s1 ⟨vs, H1, I1, r1, a, xs, G, hx, hq, e, q⟩ => ?_) hs rfl))
  subst hx
  obtain rfl := Vals.ref1 r1
  have fp : ∀ b ∈ [s1.heap.objs.size + 1, s1.heap.objs.size], FpOk X pins H1 b := fun b hb => by
    have hle : s1.heap.objs.size ≤ b := by
      rcases List.mem_cons.mp hb with rfl | hb
      · exact Nat.le_succ _
      · rw [List.mem_singleton.mp hb]
        exact Nat.le_refl _
    exact I1.fpOk hle (I1.hok.fresh hle)
  rcases hq with hq | hq
  · obtain ⟨its, rv, p', hz⟩ := I1.list (ex_l e hq)
    refine call_enumerate_list p'.isList fun h' he hit hsz hk => wpAny_pyIter_enum he ?_
    exact ⟨_, _, _, _, H1, rfl, I1.kept (t' := s1.toks) hk, turn_enum a (s1.heap.objs.size + 1) s1.heap.objs.size, ⟨⟨.none, he⟩, hit, Nat.succ_ne_self _⟩, fp, q _ _ walk_enum fun H' e' => ex_l e' hq⟩
  · obtain ⟨its, rv, p', hz⟩ := I1.tuple (ex_t e hq)
    have lt : a < s1.heap.objs.size := by
      obtain ⟨o, ho, _⟩ := id p'
      exact Heap.lt_size ho
    refine call_enumerate_tuple (show s1.heap.IsTuple a its.toArray from p') fun h' he hit hsz hk => wpAny_pyIter_enum he ?_
    exact ⟨_, _, _, _, H1, rfl, I1.kept (t' := s1.toks) hk, turn_enumT a (s1.heap.objs.size + 1) s1.heap.objs.size (Nat.ne_of_lt lt) (Nat.ne_of_gt (Nat.lt_succ_of_lt lt)), ⟨⟨.none, he⟩, hit, Nat.succ_ne_self _⟩, fp, q _ _ walk_enumT fun H' e' => ex_t e' hq⟩
/-! ### loops -/
section
variable {K : PySem.W.Frag} {g : TG} {tb : TS} {D : Ends} {σ : L2.St} {H : Hp} {tl te : TE} {tt : TT} {ta : TA} {vs : List Nat} {Q : VK}
/-- for over any walk -/
theorem g_forW {wi : TI} {n : Nat} {Y : Nat → Hp → V → Hp → Prop} (h : wi σ H fun J H1 => ∃ Gd, Walk J n Gd Y ∧ ∃ Pv : Nat → L2.St → Hp → Prop, Pv 0 σ H1 ∧ (∀ i σ H, i ≤ n → Pv i σ H → Gd H) ∧
    (∀ i x σ H H', i < n → Pv i σ H → Y i H x H' → g x σ H' fun σ2 H2 => tb { D with nx := Pv (i + 1), ct := Pv (i + 1), bk := D.nx } σ2 H2) ∧ ∀ σ H, Pv n σ H → D.nx σ H)
    (mono : ∀ R R' : It → Hp → Prop, (∀ J H, R J H → R' J H) → wi σ H R → wi σ H R') : tFor wi g tb D σ H :=
  mono _ _ (fun J H1 ⟨Gd, w, Pv, h0, hG, hs, hd⟩ => for_it w Pv h0 hG hs hd) h
/-- for x in xs, a list or a tuple -/
theorem over_for {a : Addr} {xs : List V} {G : Hp} (hs : Seq K G a xs) (e : Ex G H) (Pv : Nat → L2.St → Hp → Prop) (h0 : Pv 0 σ H) (hG : ∀ i σ H, Pv i σ H → Ex G H)
    (hb : ∀ i x σ H, xs[i]? = some x → Pv i σ H → g x σ H fun σ2 H2 => tb { D with nx := Pv (i + 1), ct := Pv (i + 1), bk := D.nx } σ2 H2) (hd : ∀ σ H, Pv xs.length σ H → D.nx σ H) :
    ∃ b ys, V.ref a = .ref b ∧ Over K b ys H fun J H1 => ∃ W : Nat → Nat → L2.St → Hp → Prop, (∃ m, W 0 m σ H1) ∧ ∀ i m σ H, W i m σ H →
      (J.stop i H ∧ D.nx σ H) ∨ (J.go i H ∧ ∃ N : L2.St → Hp → Prop, (∀ σ' H', N σ' H' → ∃ m', m' < m ∧ W (i + 1) m' σ' H') ∧ ∀ x H', J.yld i H x H' → g x σ H' fun σ2 H2 => tb { D with nx := N, ct := N, bk := D.nx } σ2 H2) :=
  over_of hs e fun J Gd w k => for_it w Pv h0 (fun i σ H _ p => k H (hG i σ H p)) (fun i x σ H H' hi p y => by
    obtain ⟨rfl, hx⟩ := y
    exact hb i x σ H' hx p) hd
theorem g_forI (h : tl σ H fun x H1 => ∃ a xs, x = .ref a ∧ Over K a xs H1 fun J H1 => ∃ W : Nat → Nat → L2.St → Hp → Prop, (∃ m, W 0 m σ H1) ∧ ∀ i m σ H, W i m σ H →
      (J.stop i H ∧ D.nx σ H) ∨ (J.go i H ∧ ∃ N : L2.St → Hp → Prop, (∀ σ' H', N σ' H' → ∃ m', m' < m ∧ W (i + 1) m' σ' H') ∧ ∀ x H', J.yld i H x H' → g x σ H' fun σ2 H2 => tb { D with nx := N, ct := N, bk := D.nx } σ2 H2)) : tFor (iQ K tl) g tb D σ H := h
theorem g_forQ {a : Addr} {xs : List V} {G : Hp} (h : ∀ R : V → Hp → Prop, R (.ref a) H → tl σ H R) (hs : Seq K G a xs) (e : Ex G H) (Pv : Nat → L2.St → Hp → Prop) (h0 : Pv 0 σ H) (hG : ∀ i σ H, Pv i σ H → Ex G H)
    (hb : ∀ i x σ H, xs[i]? = some x → Pv i σ H → g x σ H fun σ2 H2 => tb { D with nx := Pv (i + 1), ct := Pv (i + 1), bk := D.nx } σ2 H2) (hd : ∀ σ H, Pv xs.length σ H → D.nx σ H) : tFor (iQ K tl) g tb D σ H :=
  h _ (over_for hs e Pv h0 hG hb hd)
/-- .. enumerate(xs) -/
theorem g_forE {a : Addr} {xs : List V} {G : Hp} (h : ∀ R : List V → Hp → Prop, R [.ref a] H → ta σ H R) (hs : Seq K G a xs) (e : Ex G H) (Pv : Nat → L2.St → Hp → Prop) (h0 : Pv 0 σ H) (hG : ∀ i σ H, Pv i σ H → Ex G H)
    (hb : ∀ i x σ H T H', xs[i]? = some x → Pv i σ H → H T = none → Ex H H' → H' T = some (.tup [.int (i : Nat), x]) → But T H H' → g (.ref T) σ H' fun σ2 H2 => tb { D with nx := Pv (i + 1), ct := Pv (i + 1), bk := D.nx } σ2 H2)
    (hd : ∀ σ H, Pv xs.length σ H → D.nx σ H) : tFor (iEnQ K ta) g tb D σ H :=
  h _ ⟨a, xs, G, rfl, hs, e, fun J Gd w k => for_it w Pv h0 (fun i σ H _ p => k H (hG i σ H p)) (fun i x σ H H' hi p y => by
    obtain ⟨T, u, v, rfl, hT, rfl, e1, e2⟩ := y
    cases e1
    exact hb i v σ H T _ e2 p hT (Evl.Ex.new hT) upd_same fun _ hb => upd_ne hb) hd⟩
/-- for i in range(n) .. range(lo, hi) -/
theorem g_forR1 {n : Int} (h : ∀ R : List V → Hp → Prop, R [.int n] H → ta σ H R) (h1 : -(2 ^ 62) ≤ n) (h2 : n < 2 ^ 62) (Pv : Nat → L2.St → Hp → Prop) (h0 : Pv 0 σ H)
    (hb : ∀ (i : Nat) σ H, (i : Int) < n → Pv i σ H → g (.int i) σ H fun σ2 H2 => tb { D with nx := Pv (i + 1), ct := Pv (i + 1), bk := D.nx } σ2 H2) (hd : ∀ σ H, Pv n.toNat σ H → D.nx σ H) : tFor (iRng1 ta) g tb D σ H :=
  h _ ⟨n, rfl, h1, h2, for_it walk_range Pv h0 (fun _ _ _ _ _ => trivial) (fun i x σ H H' hi p y => by
    obtain ⟨rfl, rfl⟩ := y
    dsimp only
    rw [Int.zero_add]
    exact hb i σ H' (by omega) p) hd⟩
theorem g_forR2 {lo hi : Int} (h : ∀ R : List V → Hp → Prop, R [.int lo, .int hi] H → ta σ H R) (h1 : -(2 ^ 62) ≤ lo ∧ lo < 2 ^ 62 ∧ -(2 ^ 62) ≤ hi ∧ hi < 2 ^ 62) (Pv : Nat → L2.St → Hp → Prop) (h0 : Pv 0 σ H)
    (hb : ∀ (i : Nat) σ H, lo + (i : Int) < hi → Pv i σ H → g (.int (lo + i)) σ H fun σ2 H2 => tb { D with nx := Pv (i + 1), ct := Pv (i + 1), bk := D.nx } σ2 H2) (hd : ∀ σ H, Pv (hi - lo).toNat σ H → D.nx σ H) : tFor (iRng2 ta) g tb D σ H :=
  h _ ⟨lo, hi, rfl, h1, for_it walk_range Pv h0 (fun _ _ _ _ _ => trivial) (fun i x σ H H' hi p y => by
    obtain ⟨rfl, rfl⟩ := y
    exact hb i σ H' (by omega) p) hd⟩
/-! ### comprehensions -/
/-- behind j turns the list so far is acc, at L -/
def LcN (L : Addr) (Pv : Nat → List V → Hp → Prop) (j : Nat) (H : Hp) : Prop := ∃ acc, acc.length ≤ j ∧ H L = some (.lst acc) ∧ Pv j acc H
def LcT (L : Addr) (Pv : Nat → List V → Hp → Prop) (j : Nat) : V → Hp → Prop := fun y H4 => ∃ acc, H4 L = some (.lst acc) ∧ acc.length < sizeLine ∧ LcN L Pv j (upd H4 L (.lst (acc ++ [y])))
theorem lcT_of {L : Addr} {Pv : Nat → List V → Hp → Prop} {i : Nat} {acc : List V} {y : V} {H4 : Hp} (hl : acc.length ≤ i) (hi : i < 100000) (hL : H4 L = some (.lst acc)) (h : ∀ H5, But L H4 H5 → H5 L = some (.lst (acc ++ [y])) → Pv (i + 1) (acc ++ [y]) H5) : LcT L Pv (i + 1) y H4 :=
  ⟨acc, hL, szl (by omega), acc ++ [y], by rw [List.length_append]; simp only [List.length_cons, List.length_nil]; omega, upd_same, h _ (fun _ hb => upd_ne hb) upd_same⟩
/-- the turn at x, the list so far at L -/
def LcS (g : TG) (tt : TT) (te : TE) (vs : List Nat) (σ : L2.St) (L : Addr) (Pv : Nat → List V → Hp → Prop) (i : Nat) (x : V) (H' : Hp) : Prop := g x (wipe σ vs) H' fun σ2 H2 => wipe σ2 vs = wipe σ vs ∧ tt σ2 H2 fun b H3 => if b = true then te σ2 H3 (LcT L Pv (i + 1)) else LcN L Pv (i + 1) H3
theorem lc_go {J : It} {n : Nat} {Gd : Hp → Prop} {Y : Nat → Hp → V → Hp → Prop} (w : Walk J n Gd Y) {H1 : Hp} {L : Addr} (Pv : Nat → List V → Hp → Prop) (h0 : ∀ H', But L H1 H' → H' L = some (.lst []) → Pv 0 [] H')
    (hG : ∀ i acc H, Pv i acc H → Gd H) (hs : ∀ i acc x H H', i < n → acc.length ≤ i → H L = some (.lst acc) → Pv i acc H → Y i H x H' → LcS g tt te vs σ L Pv i x H')
    (hd : ∀ acc H, acc.length ≤ n → H L = some (.lst acc) → Pv n acc H → Q (.ref L) H) :
    ∃ W : Nat → Nat → Hp → Prop, (∃ m, W 0 m (upd H1 L (.lst []))) ∧ ∀ i m H, W i m H →
      (J.stop i H ∧ Q (.ref L) H) ∨ (J.go i H ∧ ∃ Nx : Hp → Prop, (∀ H', Nx H' → ∃ m', m' < m ∧ W (i + 1) m' H') ∧ ∀ x H', J.yld i H x H' → g x (wipe σ vs) H' fun σ2 H2 => wipe σ2 vs = wipe σ vs ∧ tt σ2 H2 fun b H3 =>
        if b = true then te σ2 H3 fun y H4 => ∃ acc, H4 L = some (.lst acc) ∧ acc.length < sizeLine ∧ Nx (upd H4 L (.lst (acc ++ [y]))) else Nx H3) :=
  lc_it w (LcN L Pv) ⟨[], Nat.le_refl _, upd_same, h0 _ (fun _ hb => upd_ne hb) upd_same⟩ (fun i H hi ⟨acc, _, _, p⟩ => hG i acc H p) (fun i x H H' hi ⟨acc, hl, hL, p⟩ y => hs i acc x H H' hi hl hL p y) fun H ⟨acc, hl, hL, p⟩ => hd acc H hl hL p
/-- [.. for x in xs], a list or a tuple -/
theorem g_lcQ {a : Addr} {xs : List V} {G : Hp} (h : ∀ R : V → Hp → Prop, R (.ref a) H → tl σ H R) (hs : Seq K G a xs) (e : Ex G H)
    (k : ∀ L, H L = none → ∃ Pv : Nat → List V → Hp → Prop, (∀ H', But L H H' → Ex H H' → H' L = some (.lst []) → Pv 0 [] H') ∧ (∀ i acc H, Pv i acc H → Ex G H) ∧
      (∀ i acc x H, xs[i]? = some x → acc.length ≤ i → H L = some (.lst acc) → Pv i acc H → LcS g tt te vs σ L Pv i x H) ∧ ∀ acc H, acc.length ≤ xs.length → H L = some (.lst acc) → Pv xs.length acc H → Q (.ref L) H) : tLc (iQ K tl) g tt te vs σ H Q :=
  h _ (over_of hs e fun J Gd w kG L hL => by
    obtain ⟨Pv, p0, pG, ps, pd⟩ := k L hL
    exact lc_go w Pv (fun H' b z => p0 H' b (fun q o hq => by rw [b q (ne_of_none hq hL)]; exact hq) z) (fun i acc H p => kG H (pG i acc H p)) (fun i acc x H H' hi hl hL p y => by
      obtain ⟨rfl, hx⟩ := y
      exact ps i acc x H' hx hl hL p) pd)
/-- [.. for i, x in enumerate(xs)] -/
theorem g_lcE {a : Addr} {xs : List V} {G : Hp} (h : ∀ R : List V → Hp → Prop, R [.ref a] H → ta σ H R) (hs : Seq K G a xs) (e : Ex G H)
    (k : ∀ L, H L = none → ∃ Pv : Nat → List V → Hp → Prop, (∀ H', But L H H' → Ex H H' → H' L = some (.lst []) → Pv 0 [] H') ∧ (∀ i acc H, Pv i acc H → Ex G H) ∧
      (∀ i acc x H T H', xs[i]? = some x → acc.length ≤ i → H L = some (.lst acc) → Pv i acc H → H T = none → Ex H H' → H' T = some (.tup [.int (i : Nat), x]) → But T H H' → LcS g tt te vs σ L Pv i (.ref T) H') ∧
      ∀ acc H, acc.length ≤ xs.length → H L = some (.lst acc) → Pv xs.length acc H → Q (.ref L) H) : tLc (iEnQ K ta) g tt te vs σ H Q :=
  h _ ⟨a, xs, G, rfl, hs, e, fun J Gd w kG L hL => by
    obtain ⟨Pv, p0, pG, ps, pd⟩ := k L hL
    exact lc_go w Pv (fun H' b z => p0 H' b (fun q o hq => by rw [b q (ne_of_none hq hL)]; exact hq) z) (fun i acc H p => kG H (pG i acc H p)) (fun i acc x H H' hi hl hL p y => by
      obtain ⟨T, u, v, rfl, hT, rfl, e1, e2⟩ := y
      cases e1
      exact ps i acc v H T _ e2 hl hL p hT (Evl.Ex.new hT) upd_same fun _ hb => upd_ne hb) pd⟩
/-- [.. for i in range(..)] -/
theorem g_lcR1 {n : Int} (h : ∀ R : List V → Hp → Prop, R [.int n] H → ta σ H R) (h1 : -(2 ^ 62) ≤ n) (h2 : n < 2 ^ 62)
    (k : ∀ L, H L = none → ∃ Pv : Nat → List V → Hp → Prop, (∀ H', But L H H' → Ex H H' → H' L = some (.lst []) → Pv 0 [] H') ∧
      (∀ (i : Nat) acc H, (i : Int) < n → acc.length ≤ i → H L = some (.lst acc) → Pv i acc H → LcS g tt te vs σ L Pv i (.int i) H) ∧ ∀ acc H, acc.length ≤ n.toNat → H L = some (.lst acc) → Pv n.toNat acc H → Q (.ref L) H) : tLc (iRng1 ta) g tt te vs σ H Q :=
  h _ ⟨n, rfl, h1, h2, fun L hL => by
    obtain ⟨Pv, p0, ps, pd⟩ := k L hL
    exact lc_go walk_range Pv (fun H' b z => p0 H' b (fun q o hq => by rw [b q (ne_of_none hq hL)]; exact hq) z) (fun _ _ _ _ => trivial) (fun i acc x H H' hi hl hL p y => by
      obtain ⟨rfl, rfl⟩ := y
      dsimp only
      rw [Int.zero_add]
      exact ps i acc H' (by omega) hl hL p) pd⟩
theorem g_lcR2 {lo hi : Int} (h : ∀ R : List V → Hp → Prop, R [.int lo, .int hi] H → ta σ H R) (h1 : -(2 ^ 62) ≤ lo ∧ lo < 2 ^ 62 ∧ -(2 ^ 62) ≤ hi ∧ hi < 2 ^ 62)
    (k : ∀ L, H L = none → ∃ Pv : Nat → List V → Hp → Prop, (∀ H', But L H H' → Ex H H' → H' L = some (.lst []) → Pv 0 [] H') ∧
      (∀ (i : Nat) acc H, lo + (i : Int) < hi → acc.length ≤ i → H L = some (.lst acc) → Pv i acc H → LcS g tt te vs σ L Pv i (.int (lo + i)) H) ∧ ∀ acc H, acc.length ≤ (hi - lo).toNat → H L = some (.lst acc) → Pv (hi - lo).toNat acc H → Q (.ref L) H) : tLc (iRng2 ta) g tt te vs σ H Q :=
  h _ ⟨lo, hi, rfl, h1, fun L hL => by
    obtain ⟨Pv, p0, ps, pd⟩ := k L hL
    exact lc_go walk_range Pv (fun H' b z => p0 H' b (fun q o hq => by rw [b q (ne_of_none hq hL)]; exact hq) z) (fun _ _ _ _ => trivial) (fun i acc x H H' hi hl hL p y => by
      obtain ⟨rfl, rfl⟩ := y
      exact ps i acc H' (by omega) hl hL p) pd⟩
/-! .. where the bound is worked out on the way -/
theorem g_lcR1I (h : ta σ H fun ys H1 => ∃ j : Int, ys = [.int j] ∧ -(2 ^ 62) ≤ j ∧ j < 2 ^ 62 ∧ ∀ D, H1 D = none → ∃ W : Nat → Nat → Hp → Prop, (∃ m, W 0 m (upd H1 D (.lst []))) ∧ ∀ i m H, W i m H →
  ((Itr 0 j.toNat).stop i H ∧ Q (.ref D) H) ∨ ((Itr 0 j.toNat).go i H ∧ ∃ Nx : Hp → Prop, (∀ H', Nx H' → ∃ m', m' < m ∧ W (i + 1) m' H') ∧ ∀ x H', (Itr 0 j.toNat).yld i H x H' → g x (wipe σ vs) H' fun σ2 H2 => wipe σ2 vs = wipe σ vs ∧ tt σ2 H2 fun b H3 =>
    if b = true then te σ2 H3 fun y H4 => ∃ acc, H4 D = some (.lst acc) ∧ acc.length < sizeLine ∧ Nx (upd H4 D (.lst (acc ++ [y]))) else Nx H3)) : tLc (iRng1 ta) g tt te vs σ H Q := h
theorem lcR1_of {n : Int} (h1 : -(2 ^ 62) ≤ n) (h2 : n < 2 ^ 62)
    (k : ∀ L, H L = none → ∃ Pv : Nat → List V → Hp → Prop, (∀ H', But L H H' → Ex H H' → H' L = some (.lst []) → Pv 0 [] H') ∧
      (∀ (i : Nat) acc H, (i : Int) < n → acc.length ≤ i → H L = some (.lst acc) → Pv i acc H → LcS g tt te vs σ L Pv i (.int i) H) ∧ ∀ acc H, acc.length ≤ n.toNat → H L = some (.lst acc) → Pv n.toNat acc H → Q (.ref L) H) :
    ∃ j : Int, [V.int n] = [.int j] ∧ -(2 ^ 62) ≤ j ∧ j < 2 ^ 62 ∧ ∀ D, H D = none → ∃ W : Nat → Nat → Hp → Prop, (∃ m, W 0 m (upd H D (.lst []))) ∧ ∀ i m H, W i m H →
      ((Itr 0 j.toNat).stop i H ∧ Q (.ref D) H) ∨ ((Itr 0 j.toNat).go i H ∧ ∃ Nx : Hp → Prop, (∀ H', Nx H' → ∃ m', m' < m ∧ W (i + 1) m' H') ∧ ∀ x H', (Itr 0 j.toNat).yld i H x H' → g x (wipe σ vs) H' fun σ2 H2 => wipe σ2 vs = wipe σ vs ∧ tt σ2 H2 fun b H3 =>
        if b = true then te σ2 H3 fun y H4 => ∃ acc, H4 D = some (.lst acc) ∧ acc.length < sizeLine ∧ Nx (upd H4 D (.lst (acc ++ [y]))) else Nx H3) :=
  ⟨n, rfl, h1, h2, fun L hL => by
    obtain ⟨Pv, p0, ps, pd⟩ := k L hL
    exact lc_go walk_range Pv (fun H' b z => p0 H' b (fun q o hq => by rw [b q (ne_of_none hq hL)]; exact hq) z) (fun _ _ _ _ => trivial) (fun i acc x H H' hi hl hL p y => by
      obtain ⟨rfl, rfl⟩ := y
      dsimp only
      rw [Int.zero_add]
      exact ps i acc H' (by omega) hl hL p) pd⟩
end
end Tk
namespace Tk
open PySem PySem.Spec PyProof.Rows L2
open Evl (Ex ex_l ex_t ex_rd sq_of st_of fresh_back)
/-! ### pairs of lists -/
theorem prd_mono {α β : Type} {P Q : α → β → Prop} (h : ∀ x y, P x y → Q x y) : ∀ {xs : List α} {ys : List β}, Paired P xs ys → Paired Q xs ys
  | _, _, .nil => .nil
  | _, _, .cons a t => .cons (h _ _ a) (prd_mono h t)
theorem prd_len {α β : Type} {P : α → β → Prop} : ∀ {xs : List α} {ys : List β}, Paired P xs ys → xs.length = ys.length
  | _, _, .nil => rfl
  | _, _, .cons a t => by rw [List.length_cons, List.length_cons, prd_len t]
theorem prd_get {α β : Type} {P : α → β → Prop} : ∀ {xs : List α} {ys : List β}, Paired P xs ys → ∀ {i : Nat} {x : α}, xs[i]? = some x → ∃ y, ys[i]? = some y ∧ P x y
  | _, _, .nil, i, x, h => by simp at h
  | _, _, .cons a t, 0, x, h => by
    simp only [List.getElem?_cons_zero, Option.some.injEq] at h
    subst h
    exact ⟨_, rfl, a⟩
  | _, _, .cons a t, i + 1, x, h => by
    simp only [List.getElem?_cons_succ] at h ⊢
    exact prd_get t h
theorem prd_app {α β : Type} {P : α → β → Prop} : ∀ {xs : List α} {ys : List β} {us : List α} {ws : List β}, Paired P xs ys → Paired P us ws → Paired P (xs ++ us) (ys ++ ws)
  | _, _, _, _, .nil, h => h
  | _, _, _, _, .cons a t, h => .cons a (prd_app t h)
theorem prd_zip {α β : Type} {P : α → β → Prop} : ∀ {xs : List α} {ys : List β}, Paired P xs ys → ∃ zs : List (α × β), zs.map (·.1) = xs ∧ zs.map (·.2) = ys ∧ ∀ z ∈ zs, P z.1 z.2
  | _, _, .nil => ⟨[], rfl, rfl, fun _ h => absurd h (by simp)⟩
  | _, _, .cons a t => by
    obtain ⟨zs, h1, h2, h3⟩ := prd_zip t
    refine ⟨(_, _) :: zs, by rw [List.map_cons, h1], by rw [List.map_cons, h2], fun z hz => ?_⟩
    rcases List.mem_cons.mp hz with rfl | hz
    · exact a
    · exact h3 z hz
theorem prd_of {α β : Type} {P : α → β → Prop} : ∀ {zs : List (α × β)}, (∀ z ∈ zs, P z.1 z.2) → Paired P (zs.map (·.1)) (zs.map (·.2))
  | [], _ => .nil
  | z :: zs, h => .cons (h z List.mem_cons_self) (prd_of fun y hy => h y (List.mem_cons_of_mem _ hy))
theorem prd_take {α β : Type} {P : α → β → Prop} : ∀ {xs : List α} {ys : List β} (n : Nat), Paired P xs ys → Paired P (xs.take n) (ys.take n)
  | _, _, 0, _ => by
    rw [List.take_zero, List.take_zero]
    exact .nil
  | _, _, n + 1, .nil => by
    rw [List.take_nil, List.take_nil]
    exact .nil
  | _, _, n + 1, .cons a t => by
    rw [List.take_succ_cons, List.take_succ_cons]
    exact .cons a (prd_take n t)
theorem take_snoc {α : Type} {xs : List α} {i : Nat} {x : α} (h : xs[i]? = some x) : xs.take (i + 1) = xs.take i ++ [x] := by
  rw [List.take_add_one, h]
  rfl
/-! ### heaps: what is new -/
/-- all but S is kept -/
def ExB (S : List Addr) (H H' : Hp) : Prop := ∀ b o, b ∉ S → H b = some o → H' b = some o
theorem ExB.ex {H H' : Hp} (h : ExB [] H H') : Ex H H' := fun b o e => h b o (by simp) e
theorem exB_of {S : List Addr} {H H' : Hp} (h : Ex H H') : ExB S H H' := fun b o _ e => h b o e
theorem ExB.trans {S : List Addr} {H H1 H2 : Hp} (a : ExB S H H1) (b : ExB S H1 H2) : ExB S H H2 := fun p o n e => b p o n (a p o n e)
theorem ExB.refl {S : List Addr} {H : Hp} : ExB S H H := fun _ _ _ e => e
/-- what G holds is kept, where G holds nothing of S -/
theorem ExB.keep {S : List Addr} {G H H' : Hp} (h : ExB S H H') (e : Ex G H) (n : ∀ b ∈ S, G b = none) : Ex G H' := fun b o q => h b o (fun z => by rw [n b z] at q; cases q) (e b o q)
def tupO : HO → Bool
  | .tup _ => true
  | .frz _ (.tup _) => true
  | _ => false
/-- the new objects, and the tuples that there were -/
def newH (H H' : Hp) : Hp := fun b => match H b with
  | none => H' b
  | some o => if tupO o = true then some o else none
theorem new_none {H H' : Hp} {b : Addr} (h : H b = none) : newH H H' b = H' b := by
  unfold newH
  rw [h]
theorem new_some {H H' : Hp} {b : Addr} {o : HO} (h : H b = some o) : newH H H' b = if tupO o = true then some o else none := by
  unfold newH
  rw [h]
/-- S holds lists -/
def LsS (S : List Addr) (H : Hp) : Prop := ∀ b ∈ S, ∃ xs, H b = some (.lst xs)
theorem new_ex {S : List Addr} {H H' : Hp} (h : ExB S H H') (hs : LsS S H) : Ex (newH H H') H' := fun b o q => by
  cases e : H b with
  | none => rwa [new_none e] at q
  | some u =>
    rw [new_some e] at q
    by_cases t : tupO u = true
    · rw [if_pos t] at q
      cases q
      exact h b o (fun z => by
        obtain ⟨xs, hx⟩ := hs b z
        rw [e] at hx
        cases hx
        cases t) e
    · rw [if_neg t] at q
      cases q
theorem new_S {S : List Addr} {H H' : Hp} (hs : LsS S H) {b : Addr} (hb : b ∈ S) : newH H H' b = none := by
  obtain ⟨xs, hx⟩ := hs b hb
  rw [new_some hx]
  rfl
/-- G and N together -/
def jn (G N : Hp) : Hp := fun b => match G b with
  | some o => some o
  | none => N b
theorem jn_l {G N : Hp} : Ex G (jn G N) := fun b o e => by
  unfold jn
  rw [e]
theorem jn_r {G H H' : Hp} (e : Ex G H) : Ex (newH H H') (jn G (newH H H')) := fun b o q => by
  unfold jn
  cases g : G b with
  | none => exact q
  | some u =>
    have h := e b u g
    rw [new_some h] at q
    by_cases t : tupO u = true
    · rw [if_pos t] at q
      exact q
    · rw [if_neg t] at q
      cases q
theorem jn_ex {G N H' : Hp} (h1 : Ex G H') (h2 : Ex N H') : Ex (jn G N) H' := fun b o q => by
  unfold jn at q
  cases g : G b with
  | none =>
    rw [g] at q
    exact h2 b o q
  | some u =>
    rw [g] at q
    cases q
    exact h1 b o g
theorem jn_none {G N : Hp} {b : Addr} (h1 : G b = none) (h2 : N b = none) : jn G N b = none := by
  unfold jn
  rw [h1]
  exact h2
/-- in two steps -/
theorem new_12 {S : List Addr} {H H1 H2 : Hp} (h1 : ExB S H H1) (hs : LsS S H) (h2 : ExB S H1 H2) : Ex (newH H H1) (newH H H2) := fun b o q => by
  cases e : H b with
  | none =>
    rw [new_none e] at q ⊢
    exact h2 b o (fun z => by
      obtain ⟨xs, hx⟩ := hs b z
      rw [e] at hx
      cases hx) q
  | some u =>
    rw [new_some e] at q ⊢
    exact q
theorem new_23 {S : List Addr} {H H1 H2 : Hp} (h1 : ExB S H H1) (hs : LsS S H) (hs1 : LsS S H1) (h2 : ExB S H1 H2) : Ex (newH H1 H2) (newH H H2) := fun b o q => by
  cases e : H b with
  | none =>
    rw [new_none e]
    exact new_ex h2 hs1 b o q
  | some u =>
    rw [new_some e]
    have hb : b ∉ S := fun z => by
      rw [new_S hs1 z] at q
      cases q
    have e1 := h1 b u hb e
    rw [new_some e1] at q
    exact q
/-- a tuple that stands now -/
theorem new_t {K : PySem.W.Frag} {S : List Addr} {H H' : Hp} (h : ExB S H H') (hs' : LsS S H') {a : Addr} {xs : List V} (q : SqT K H' a xs) : SqT K (newH H H') a xs := by
  have tp : ∀ o, H' a = some o → tupO o = true → newH H H' a = some o := fun o e t => by
    cases z : H a with
    | none => rw [new_none z, e]
    | some u =>
      by_cases m : a ∈ S
      · obtain ⟨ys, hy⟩ := hs' a m
        rw [e] at hy
        cases hy
        cases t
      · have e2 := h a u m z
        rw [e] at e2
        cases e2
        rw [new_some z, if_pos t]
  rcases q with (q | ⟨o, q⟩) | q
  · exact .inl (.inl (tp _ q rfl))
  · exact .inl (.inr ⟨o, tp _ q rfl⟩)
  · exact .inr q
theorem RuleT.new {K : PySem.W.Frag} {S : List Addr} {H H' : Hp} {v : V} {r : Rl} (q : RuleT K H' v r) (h : ExB S H H') (hs' : LsS S H') : RuleT K (newH H H') v r := by
  obtain ⟨a, h1, h2⟩ := q
  exact ⟨a, h1, new_t h hs' h2⟩
theorem lsS_nil {H : Hp} : LsS [] H := fun b hb => absurd hb (by simp)
/-! ### rules as data -/
def hd (h : Option Int) : PyData := match h with
  | none => .none
  | some k => .int k
def rd (r : Rl) : PyData := .tuple [.int r.lo, hd r.hi, .str r.lf, .int r.re, .int r.mo]
theorem dp_rule {K : PySem.W.Frag} {H : Hp} {v : V} {r : Rl} (h : RuleT K H v r) : Dp K H v (rd r) := by
  obtain ⟨a, rfl, h⟩ := h
  refine .tup h (.cons (.int _) (.cons ?_ (.cons (.str _) (.cons (.int _) (.cons (.int _) .nil)))))
  cases r.hi with
  | none => exact .non
  | some k => exact .int k
theorem dp_rules {K : PySem.W.Frag} {H : Hp} : ∀ {xs : List V} {R : List Rl}, Paired (RuleT K H) xs R → DpAll K H xs (R.map rd)
  | _, _, .nil => .nil
  | _, _, .cons a t => .cons (dp_rule a) (dp_rules t)
theorem hd_lay (h : Option Int) : (hd h).canLay0 = true := by
  cases h <;> simp [hd, PyData.canLay0]
theorem hd_depth (h : Option Int) : (hd h).depth = 0 := by
  cases h <;> simp [hd, PyData.depth]
theorem lf_ok {r : Rl} (g : Good r) : PyData.strOk r.lf = true := by
  rcases g.lf3 with h | h | h <;> (rw [h]; decide +kernel)
theorem rd_lay {r : Rl} (g : Good r) : (rd r).canLay0 = true := by simp [rd, PyData.canLay0, PyData.canLayAll0, hd_lay, lf_ok g]
theorem rd_depth (r : Rl) : (rd r).depth = 1 := by simp [rd, PyData.depth, PyData.depthAll, hd_depth]
theorem rds_lay : ∀ R : List Rl, (∀ r ∈ R, Good r) → PyData.canLayAll0 (R.map rd) = true
  | [], _ => by simp [PyData.canLayAll0]
  | r :: R, g => by simp [PyData.canLayAll0, rd_lay (g r List.mem_cons_self), rds_lay R fun s hs => g s (List.mem_cons_of_mem _ hs)]
theorem rds_depth : ∀ R : List Rl, PyData.depthAll (R.map rd) ≤ 1
  | [] => by simp [PyData.depthAll]
  | r :: R => by
    have h1 := rds_depth R
    have h2 := rd_depth r
    simp only [List.map_cons, PyData.depthAll]
    omega
theorem rd_shaped {r : Rl} (g : Good r) : SeqAt.shaped (rd r) = true := by
  have h := rd_depth r
  unfold SeqAt.shaped
  rw [Bool.and_eq_true]
  exact ⟨rd_lay g, decide_eq_true (by omega)⟩
theorem rds_shaped {R : List Rl} (g : ∀ r ∈ R, Good r) : SeqAt.shaped (.list (R.map rd)) = true := by
  have h := rds_depth R
  unfold SeqAt.shaped
  rw [Bool.and_eq_true]
  refine ⟨by simp only [PyData.canLay0]; exact rds_lay R g, decide_eq_true ?_⟩
  simp only [PyData.depth]
  omega
theorem hd_eqv (h k : Option Int) : PyData.eqv (hd h) (hd k) = decide (h = k) := by
  cases h <;> cases k <;> simp [hd, PyData.eqv, Bool.beq_eq_decide_eq]
theorem rd_eqv (r s : Rl) : PyData.eqv (rd r) (rd s) = decide (r = s) := by
  obtain ⟨a, b, c, d, e⟩ := r
  obtain ⟨a', b', c', d', e'⟩ := s
  simp only [rd, PyData.eqv, PyData.eqvAll, hd_eqv]
  by_cases h1 : a = a' <;> by_cases h2 : b = b' <;> by_cases h3 : c = c' <;> by_cases h4 : d = d' <;> by_cases h5 : e = e' <;> simp [h1, h2, h3, h4, h5]
theorem rd_in (r : Rl) (R : List Rl) : ((R.map rd).any fun z => PyData.eqv z (rd r)) = decide (r ∈ R) := by
  induction R with
  | nil => simp
  | cons s R ih =>
    rw [List.map_cons, List.any_cons, ih, rd_eqv]
    by_cases h1 : s = r
    · simp [h1]
    · have h1' : ¬ r = s := fun z => h1 z.symm
      by_cases h2 : r ∈ R <;> simp [h1, h1', h2]
section
variable {K : PySem.W.Frag} {σ : L2.St} {H : Hp} {Q : VK} {ta tk : TA} {x y : V}
theorem g_ckw {r : List V → List V → Hp → VK → Prop} (h : ta σ H fun vs H1 => tk σ H1 fun zs H2 => r vs zs H2 Q) : tCKw r ta tk σ H Q := h
theorem g_yes {QB : Bool → Hp → Prop} (h : QB true H) : tYes σ H QB := h
theorem g_lcs {g : TG} {tt : TT} {te : TE} {vs : List Nat} {L : Addr} {Pv : Nat → List V → Hp → Prop} {i : Nat} (h : g x (wipe σ vs) H fun σ2 H2 => wipe σ2 vs = wipe σ vs ∧ tt σ2 H2 fun b H3 => if b = true then te σ2 H3 (LcT L Pv (i + 1)) else LcN L Pv (i + 1) H3) : LcS g tt te vs σ L Pv i x H := h
theorem g_inR {a : Addr} {xs : List V} {R : List Rl} {r : Rl} {b : Bool} (hx : RuleT K H x r) (hl : SqL K H a xs) (hp : Paired (RuleT K H) xs R) (g : Good r) (gs : ∀ s ∈ R, Good s) (e : decide (r ∈ R) = b) (h : Q (.bl b) H) : rInD K x (.ref a) H Q :=
  ⟨rd r, R.map rd, dp_rule hx, .lst hl (dp_rules hp), rd_shaped g, rds_shaped gs, by rw [rd_in, e]; exact h⟩
theorem g_ninR {a : Addr} {xs : List V} {R : List Rl} {r : Rl} {b : Bool} (hx : RuleT K H x r) (hl : SqL K H a xs) (hp : Paired (RuleT K H) xs R) (g : Good r) (gs : ∀ s ∈ R, Good s) (e : (!decide (r ∈ R)) = b) (h : Q (.bl b) H) : rNotInD K x (.ref a) H Q :=
  ⟨rd r, R.map rd, dp_rule hx, .lst hl (dp_rules hp), rd_shaped g, rds_shaped gs, by rw [rd_in, e]; exact h⟩
theorem g_tupQ {a : Addr} {xs : List V} (hs : Seq K H a xs) (h : ∀ p H', Ex H H' → SqT K H' p xs → Q (.ref p) H') : nTup K [.ref a] H Q :=
  hs.elim (fun hs => g_tupL hs fun p H' _ e hp _ => h p H' e (st_of hp)) (fun hs => g_tupT hs (h a H (fun _ _ z => z) hs))
theorem g_all {a : Addr} {bs : List Bool} (hl : SqL K H a (bs.map V.bl)) (h : Q (.bl (bs.all id)) H) : rAll K [.ref a] H Q := ⟨a, bs, rfl, hl, h⟩
theorem g_any {a : Addr} {bs : List Bool} (hl : SqL K H a (bs.map V.bl)) (h : Q (.bl (bs.any id)) H) : rAny K [.ref a] H Q := ⟨a, bs, rfl, hl, h⟩
theorem g_sum {a : Addr} {ns : List Int} (hl : SqL K H a (ns.map V.int)) (h : Q (.int ns.sum) H) : rSum K [.ref a] H Q := ⟨a, ns, rfl, hl, h⟩
end
theorem units_of {k : Nat} {A : Around} (hr : Room k A) : A.units + 65 < cLine := by
  have := hr.un
  omega
/-- sorted(e, key=x), x a def -/
theorem pe_sortK {α : Type} (key : α → Str) {X : Cx} {k : Nat} {x : Str} {p : Str} {sp : Sp} {e : Expr} {t : TA} {fp pos : Pos} {kws : List Keyword} (G : Kept X.prog X.w X.K X.mg X.base CX0 k x [p] sp) (hr : Room (k + 2) X.A) (hs : X.mg "sorted" = none) (ha : PA X [e] t) (hk : PK X kws (tCons (tC (.ref (He.ga X.K x))) tNil))
    (hg : Gl X "sorted" := by rfl) (he : backTo pos (starEach [e] X.env) = (false, eval e X.env) :: backTo pos (starEach [] X.env) := by rfl) (hpl : (backTo pos (starEach [e] X.env)).any (·.1) = false := by rfl)
    (hall : (backToKw pos (keywordEach kws X.env)).all (·.1.isSome) = true := by rfl) (hnone : (backToKw pos (keywordEach kws X.env)).any (·.1.isNone) = false := by rfl) (hks : (backToKw pos (keywordEach kws X.env)).filterMap (·.1) = [Str.ofString "key"] := by rfl) :
    PE X (.Call (.Name "sorted" fp) [e] kws pos) (tCKw (rSortK key X.K sp (He.ga X.K x)) t (tCons (tC (.ref (He.ga X.K x))) tNil)) := by
  obtain ⟨st, fd, D, F⟩ := G
  exact pe_callBK (cr_sortK (key := key) F hr D.b) hg hs (by decide +kernel) ha hk (by decide) (by decide) he hpl hall hnone hks
theorem kept_g {P : Program} {w : World} {K : PySem.W.Frag} {mg : Str → Option Value} {base : Heap} {CX : CXT} {k : Nat} {x : Str} {ps : List Str} {sp : Sp} (G : Kept P w K mg base CX k x ps sp) : mg x = some (.ref (He.ga K x)) := by
  obtain ⟨st, fd, D, F⟩ := G
  exact D.g
/-! ### a heap without one object -/
theorem ex_del {G H : Hp} {p : Addr} (e : Ex G H) (n : G p = none) : Ex G (del H p) := fun b o h => by
  rw [del_ne (ne_of_none h n)]
  exact e b o h
theorem del_but {H H' : Hp} {p : Addr} (h : But p H H') : Ex (del H p) H' := fun b o z => by
  by_cases q : b = p
  · rw [q, del_same] at z
    cases z
  · rw [del_ne q] at z
    rw [h b q]
    exact z
theorem del_ex {H : Hp} {p : Addr} : Ex (del H p) H := del_but fun _ _ => rfl
theorem sqT_del {K : PySem.W.Frag} {H : Hp} {p a : Addr} {xs : List V} {ob : HO} (q : SqT K H a xs) (h : H p = some ob) (ho : tupO ob = false := by rfl) : SqT K (del H p) a xs := by
  have n : ∀ o, H a = some o → tupO o = true → a ≠ p := fun o e t z => by
    rw [z, h] at e
    cases e
    rw [ho] at t
    cases t
  rcases q with (q | ⟨o, q⟩) | q
  · exact .inl (.inl (by rw [del_ne (n _ q rfl)]; exact q))
  · exact .inl (.inr ⟨o, by rw [del_ne (n _ q rfl)]; exact q⟩)
  · exact .inr q
theorem RuleT.del {K : PySem.W.Frag} {H : Hp} {p : Addr} {ob : HO} {v : V} {r : Rl} (q : RuleT K H v r) (h : H p = some ob) (ho : tupO ob = false := by rfl) : RuleT K (del H p) v r := by
  obtain ⟨a, h1, h2⟩ := q
  exact ⟨a, h1, sqT_del h2 h ho⟩
theorem ty_L {K : PySem.W.Frag} {H : Hp} {p : Addr} {xs : List V} (h : H p = some (.lst xs)) : tyV K "list" (.ref p) H := .inl ⟨rfl, xs, sq_of h⟩
/-! ### rules with the frag said -/
theorem ixT (K : PySem.W.Frag) {X : Cx} (h : X.K = K := by rfl) : IxR X (rIxT K) := by
  subst h
  exact ix_tup
theorem ixL (K : PySem.W.Frag) {X : Cx} (h : X.K = K := by rfl) : IxR X (rIxL K) := by
  subst h
  exact ix_list
theorem ixQ (K : PySem.W.Frag) {X : Cx} (h : X.K = K := by rfl) : IxR X (rIx K) := by
  subst h
  exact ix_seq
theorem pg_tupK (K : PySem.W.Frag) {X : Cx} {es : List Expr} {k : Nat} {t : TGs} {n : Nat} {pos : Pos} (hc : X.calm = true) (h : PGs X es t) (hK : X.K = K := by rfl)
    (hn : (assignEach es X.env).length = n := by rfl) (hst : (assignEach es X.env).findIdx? (·.1) = none := by rfl) : PG X (.Tuple es k pos) (gTup K n t) := by
  subst hK
  exact pg_tup hc h hn hst
theorem pe_bmK (K : PySem.W.Frag) {X : Cx} {T : String} {name : Str} {id : String} {r : V → List V → Hp → VK → Prop} {o e : Expr} {es : List Expr} {to : TE} {t : TA} {apos cpos : Pos}
    (pa : PlainAttrs T) (slot : Slot T name id) (hty : typeOf (.builtin id) = pure (.type "method_descriptor")) (hm : MtR X id r) (ho : PE X o to) (ha : PA X (e :: es) t) (hK : X.K = K := by rfl)
    (hbase : attributeBase o name X.env (eval o X.env) = eval o X.env := by rfl)
    (hfew : ((backTo cpos (starEach (e :: es) X.env)).all (fun x => !x.1) && (backToKw cpos (keywordEach [] X.env)).all (fun x => x.1.isSome) && decide ((e :: es).length + ([] : List Keyword).length + (if ([] : List Keyword).isEmpty then 0 else 1) < 30)) = true := by rfl)
    (hline : (apos.endLine == cpos.line) = true := by rfl) (hs : starEach (e :: es) X.env = (false, eval e X.env) :: starEach es X.env := by rfl) (hplain : (backTo cpos (starEach es X.env)).any (·.1) = false := by rfl) :
    PE X (.Call (.Attribute o name apos) (e :: es) [] cpos) (tBM K T r to t) := by
  subst hK
  exact pe_bm pa slot hty hm ho ha hbase hfew hline hs hplain
/-! K said, for what stands within comprehensions -/
theorem cLenK (K : PySem.W.Frag) {X : Cx} (h : X.K = K := by rfl) : CallR X (.builtin "len") (nLen K) := by
  subst h
  exact cLen
end Tk
namespace Tk
open PySem PySem.Spec PyProof.Rows L2
open Evl (Ex ex_l ex_t ex_rd sq_of st_of fresh_back)
local macro_rules | `(tactic| walk_at "g") => `(tactic| (repeat (first
  | (with_reducible refine g_seq ?_) | (with_reducible refine g_asg ?_) | (with_reducible refine g_name ?_) | (with_reducible refine g_sub ?_)
  | ((with_reducible refine' g_var ?e ?_); (case e => exact rfl)) | (with_reducible refine g_c ?_) | (with_reducible refine g_op ?_) | (with_reducible refine g_un ?_) | (with_reducible refine g_U ?_)
  | (with_reducible refine g_I0 ?_) | (with_reducible refine g_eqI ?_) | (with_reducible refine g_neI ?_) | (with_reducible refine g_eqS ?_) | (with_reducible refine g_neS ?_) | (with_reducible refine g_eqB ?_) | (with_reducible refine g_neB ?_)
  | (with_reducible refine g_test ?_) | (with_reducible refine g_tB ?_) | (with_reducible refine g_bl ?_) | (with_reducible refine g_and ?_) | (with_reducible refine g_or ?_) | (with_reducible refine g_not ?_)
  | (with_reducible refine g_andV ?_) | (with_reducible refine g_orV ?_) | (with_reducible refine g_notV ?_) | (with_reducible refine g_ifE ?_) | (with_reducible refine g_ifS ?_)
  | (with_reducible refine g_next ?_) | (with_reducible refine g_ret ?_) | (with_reducible refine g_drop ?_) | (with_reducible refine g_nil ?_) | (with_reducible refine g_cons ?_) | (with_reducible refine g_call ?_)
  | (with_reducible refine g_cb ?_) | (with_reducible refine g_bm ?_) | (with_reducible refine g_lst ?_) | (with_reducible refine g_tup ?_) | (with_reducible refine iteT ?_) | (with_reducible refine iteF ?_) | (with_reducible refine g_nt ?_) | (with_reducible refine g_nf ?_)
  | (with_reducible refine g_par ?_) | (with_reducible refine g_par3 ?_) | (with_reducible refine g_two ?_) | (with_reducible refine g_three ?_) | (with_reducible refine g_ckw ?_) | (with_reducible refine g_yes ?_) | (with_reducible refine g_chain ?_) | (with_reducible refine g_gnil ?_) | (with_reducible refine g_gcons ?_) | (with_reducible refine g_fld ?_) | (with_reducible refine g_sfld ?_) | (with_reducible refine g_isN ?_) | (with_reducible refine g_nint ?_) | (with_reducible refine g_nintB ?_) | (with_reducible refine g_max ?_) | (with_reducible refine g_min ?_))))
local macro_rules | `(tactic| walk_at "k") => `(tactic| (repeat (first
  | (with_reducible refine g_seq ?_) | (with_reducible refine g_asg ?_) | (with_reducible refine g_name ?_) | (with_reducible refine g_sub ?_)
  | ((with_reducible refine' g_var ?e ?_); (case e => exact rfl)) | (with_reducible refine g_c ?_) | (with_reducible refine g_op ?_) | (with_reducible refine g_un ?_) | (with_reducible refine g_U ?_)
  | (with_reducible refine g_I0 ?_) | (with_reducible refine g_eqI ?_) | (with_reducible refine g_neI ?_) | (with_reducible refine g_eqS ?_) | (with_reducible refine g_neS ?_) | (with_reducible refine g_eqB ?_) | (with_reducible refine g_neB ?_)
  | (with_reducible refine g_test ?_) | (with_reducible refine g_tB ?_) | (with_reducible refine g_bl ?_) | (with_reducible refine g_and ?_) | (with_reducible refine g_or ?_) | (with_reducible refine g_not ?_)
  | (with_reducible refine g_andV ?_) | (with_reducible refine g_orV ?_) | (with_reducible refine g_notV ?_) | (with_reducible refine g_ifE ?_)
  | (with_reducible refine g_next ?_) | (with_reducible refine g_ret ?_) | (with_reducible refine g_drop ?_) | (with_reducible refine g_nil ?_) | (with_reducible refine g_cons ?_) | (with_reducible refine g_call ?_)
  | (with_reducible refine g_cb ?_) | (with_reducible refine g_bm ?_) | (with_reducible refine g_lst ?_) | (with_reducible refine g_tup ?_) | (with_reducible refine iteT ?_) | (with_reducible refine iteF ?_) | (with_reducible refine g_nt ?_) | (with_reducible refine g_nf ?_)
  | (with_reducible refine g_par ?_) | (with_reducible refine g_par3 ?_) | (with_reducible refine g_two ?_) | (with_reducible refine g_three ?_) | (with_reducible refine g_ckw ?_) | (with_reducible refine g_yes ?_) | (with_reducible refine g_chain ?_) | (with_reducible refine g_gnil ?_) | (with_reducible refine g_gcons ?_) | (with_reducible refine g_fld ?_) | (with_reducible refine g_sfld ?_) | (with_reducible refine g_isN ?_) | (with_reducible refine g_nint ?_) | (with_reducible refine g_nintB ?_) | (with_reducible refine g_max ?_) | (with_reducible refine g_min ?_))))
/-- sorted by their lines -/
def Srt (R : List Rl) : Prop := R.Pairwise fun r s => ltS (line s) (line r) = false
/-- the rules at a -/
def spCkRules (K : PySem.W.Frag) : Sp := fun vs H Q _ => ∃ (a : Addr) (xs : List V) (R : List Rl), vs = [.ref a] ∧ Seq K H a xs ∧ Paired (RuleQ K H) xs R ∧ Goods R ∧
  ∀ H' p ys S, Ex H H' → H p = none → H' p = some (.lst ys) → Paired (RuleT K H') ys S → S.Perm R → Srt S → Q (.ref p) H'
/-- all(..) of a list of truths -/
theorem all_true {bs : List Bool} (h : ∀ b ∈ bs, b = true) : bs.all id = true := List.all_eq_true.mpr h
theorem rules_out {K : PySem.W.Frag} {H : Hp} {ys : List (V × Rl)} {p : Addr} (np : H p = none) (hm : ∀ z : V × Rl, z ∈ ys → RuleT K H z.1 z.2) : Paired (RuleT K (upd H p (.lst (ys.map (·.1))))) (ys.map (·.1)) (ys.map (·.2)) := by
  have e8 : Ex H (upd H p (.lst (ys.map (·.1)))) := Evl.Ex.new np
  exact prd_of fun z hz => (hm z hz).ex e8
theorem srt_map {ys : List (V × Rl)} (h : ys.Pairwise fun x y => ltS (line y.2) (line x.2) = false) : Srt (ys.map (·.2)) := by
  unfold Srt
  rw [List.pairwise_map]
  exact h
section
variable {P : Program} {w : World} {K : PySem.W.Frag} {mg : Str → Option Value} {base : Heap}
theorem sc_checked_rules : FnScope ["rules", "found", "index", "thing", "one"] ["rules"] (defScope st_checked_rules) := ⟨rfl, rfl, rfl, by decide +kernel, rfl, by decide +kernel, by decide +kernel⟩
theorem ok_checked_rules (T : Txt K mg) : Kept P w K mg base CX0 4 "checked_rules" ["rules"] (spCkRules K) := by
  have G_is_list := ok_is_list (P := P) (w := w) (base := base) T
  have G_is_rule := ok_is_rule (P := P) (w := w) (base := base) T
  have G_go_together := ok_go_together (P := P) (w := w) (base := base) T
  have G_rule_line := ok_rule_line (P := P) (w := w) (base := base) T
  refine kept0 T.d_checked_rules sc_checked_rules (fun vs H Q E h => ?_) (fun cdv A outer s H0 vs Q E hr h => ?_)
  · obtain ⟨a, xs, R, rfl, _⟩ := h
    rfl
  · obtain ⟨a, xs, R, rfl, hs, hpR, g, q⟩ := h
    refine ⟨_, (pss_cons (ps_if (pt_not (pt_val (pe_c G_is_list (hr.mono (by decide)) pass0 (pa_cons (pv 0) pa_nil)))) (pss_one ps_never) pss_nil)
      (pss_cons (ps_set (i := 1) sc_checked_rules.nd rfl (Or.inl rfl) (pe_lst pa_nil))
      (pss_cons (ps_for PassesOwn.never rfl (pi_enumQ (by rfl) T.f_enumerate (pa_cons (pv 0) pa_nil)) (pg_tup rfl (pgs_cons (pg_name (i := 2) sc_checked_rules.nd rfl (Or.inl rfl)) (pgs_cons (pg_name (i := 3) sc_checked_rules.nd rfl (Or.inr rfl)) pgs_nil))) (pss_cons (ps_if (PW.pt (pw_or (pt_not (pt_val (pe_c G_is_rule (hr.mono (by decide)) pass0 (pa_cons (pv 3) pa_nil)))) (pw_or (pt_cmpR (op_inD (units_of hr)) (pe_callTy cTup (by rfl) T.f_tuple (by decide +kernel) (pa_cons (pv 3) pa_nil)) (pv 1) (by rfl)) (pw_or1 (pt_not (pt_val (pe_callB (cr_all rfl) (by rfl) T.f_all (by decide +kernel) (pa_cons (pe_lc rfl (own := [("one", 4)]) sc_checked_rules.nd (pi_q (pv 1)) (blkOk_by (own := [("one", 4)]) (N := ["rules", "found", "index", "thing", "one"]) (sc := defScope st_checked_rules) (by decide +kernel)) (fun _ _ _ _ _ => (pg_name (i := 4) sc_checked_rules.nd rfl (Or.inl rfl))) (fun _ _ _ _ _ => pts_nil) (fun _ _ _ _ _ => (pe_c G_go_together (hr.mono (by decide)) pass0 (pa_cons (pv 3) (pa_cons (pv 4) pa_nil))))) pa_nil)))))))) (pss_one ps_never) pss_nil)
      (pss_one (ps_expr (pe_bmK K PySem.F.plainAttrs_list PySem.F.slot_list_append PySem.F.type_list_append mt_append (pv 1) (pa_cons (pe_callTy cTup (by rfl) T.f_tuple (by decide +kernel) (pa_cons (pv 3) pa_nil)) pa_nil))))))
      (pss_one (ps_ret (pe_sortK line G_rule_line (hr.mono (by decide)) T.f_sorted (pa_cons (pv 1) pa_nil) (pk_cons (pe_glob (v := .ref (He.ga K "rule_line")) (by rfl) (kept_g G_rule_line) rfl) pk_nil))))))), ?_⟩
    walk_at "k"
    refine g_ifS ?_
    walk_at "k"
    refine ⟨_, true, rfl, .inl ⟨rfl, a, _, rfl, hs⟩, fun H1 e1 => ?_⟩
    walk_at "k"
    refine g_new (sz (by decide)) fun f H2 nf e2 hf b2 => ?_
    walk_at "k"
    refine g_forE (G := H1) (fun R hR => ?_) (hs.ex e1) e2 (fun i σ H => ∃ (o2 o3 o4 : Option V) (G : Hp) (acc : List V), σ = [some (.ref a), some (.ref f), o2, o3, o4] ∧ Ex H1 G ∧ Ex G H ∧ G f = none ∧ H f = some (.lst acc) ∧ Paired (RuleT K G) acc (R.take i)) ?_ ?_ ?_ ?_
    · walk_at "k"
      exact hR
    · exact ⟨none, none, none, H1, [], rfl, fun _ _ h => h, e2, nf, hf, by rw [List.take_zero]; exact .nil⟩
    · rintro i σ H ⟨_, _, _, G, acc, _, h1, h2, _⟩
      exact h1.trans h2
    · rintro i x σ H T' H' hx ⟨o2, o3, o4, G, acc, rfl, h1, h2, nf, hf, hp⟩ hT eT hT' bT
      obtain ⟨r, hri, hq⟩ := prd_get hpR hx
      have gr : Good r := g.good r (List.mem_of_getElem? hri)
      have e0' : Ex H0 H' := (e1.trans h1).trans (h2.trans eT)
      walk_at "k"
      refine g_gtup (st_of hT') rfl ?_
      walk_at "k"
      refine g_ifS ?_
      walk_at "k"
      refine ⟨_, r, rfl, hq.ex e0', gr, fun H3 e3 => ?_⟩
      walk_at "k"
      obtain ⟨b, rfl, hsq⟩ := hq.ex (e0'.trans e3)
      refine g_tupQ hsq fun p H4 e4 ht => ?_
      have hf4 : H4 f = some (.lst acc) := e4 _ _ (e3 _ _ (eT _ _ hf))
      have eG : Ex G H4 := h2.trans (eT.trans (e3.trans e4))
      have hp4 : Paired (RuleT K H4) acc (R.take i) := prd_mono (fun _ _ z => z.ex eG) hp
      walk_at "k"
      have nd : r ∉ R.take i := fun hm => by
        obtain ⟨j, hj, e⟩ := List.getElem_of_mem hm
        rw [List.length_take] at hj
        rw [List.getElem_take] at e
        have hi := (List.getElem?_eq_some_iff.mp hri)
        have := (List.getElem_inj g.nd (h₀ := by omega) (h₁ := hi.1)).mp (e.trans hi.2.symm)
        omega
      refine g_inR ⟨_, rfl, ht⟩ (sq_of hf4) hp4 gr (fun s hs => g.good s (List.mem_of_mem_take hs)) (decide_eq_false nd) ?_
      walk_at "k"
      refine g_lcQ (G := H4) (fun R hR => ?_) (.inl (sq_of hf4)) (fun _ _ z => z) fun L hL => ⟨fun _ ac H => Ex H4 H ∧ ∃ bs : List Bool, ac = bs.map V.bl ∧ ∀ b ∈ bs, b = true, fun H5 b5 e5 _ => ⟨e5, [], rfl, fun _ hb => absurd hb (by simp)⟩, fun _ _ _ z => z.1, ?_, ?_⟩
      · walk_at "k"
        exact hR
      · rintro j ac y H5 hy hl hL5 ⟨e5, bs, rfl, hb⟩
        obtain ⟨s', hs', ht'⟩ := prd_get hp4 hy
        refine g_lcs ?_
        walk_at "k"
        refine ⟨rfl, ?_⟩
        walk_at "k"
        have hm : s' ∈ R := List.mem_of_mem_take (List.mem_of_getElem? hs')
        refine ⟨_, _, r, s', rfl, ⟨b, rfl, hsq.ex (e4.trans e5)⟩, ht'.q.ex e5, g.fit r (List.mem_of_getElem? hri) s' hm, ?_⟩
        have hj : j < 100000 := by
          have h3 := (List.getElem?_eq_some_iff.mp hy).1
          have h4 := prd_len hp4
          have h5 := g.len
          rw [List.length_take] at h4
          omega
        refine lcT_of hl hj hL5 fun H6 b6 h6 => ⟨fun q o z => ?_, bs ++ [true], by rw [List.map_append]; rfl, ?_⟩
        · rw [b6 q (fun w => by rw [w, hL] at z; cases z)]
          exact e5 q o z
        · intro c hc
          rcases List.mem_append.mp hc with hc | hc
          · exact hb c hc
          · exact List.mem_singleton.mp hc
      rintro ac H5 _ hL5 ⟨e5, bs, rfl, hb⟩
      walk_at "k"
      refine g_all (sq_of hL5) ?_
      rw [all_true hb]
      walk_at "k"
      have hf5 := e5 _ _ hf4
      refine ⟨ty_L hf5, ?_⟩
      walk_at "k"
      refine g_tupQ (hsq.ex (e4.trans e5)) fun p' H6 e6 ht6 => ?_
      have hf6 := e6 _ _ hf5
      walk_at "k"
      refine g_app hf6 ?_ fun H7 b7 h7 => ?_
      · have h4 := prd_len hp
        have h5 := g.len
        rw [List.length_take] at h4
        exact szl (by omega)
      walk_at "k"
      have eG6 : Ex G H6 := eG.trans (e5.trans e6)
      refine ⟨_, _, _, del H6 f, acc ++ [.ref p'], rfl, h1.trans (ex_del eG6 nf), del_but b7, del_same, h7, ?_⟩
      rw [take_snoc hri]
      exact prd_app (prd_mono (fun _ _ z => (z.ex eG6).del hf6) hp) (.cons ⟨p', rfl, sqT_del ht6 hf6⟩ .nil)
    rintro σ H ⟨o2, o3, o4, G, acc, rfl, h1, h2, nf, hf, hp⟩
    have hlen := prd_len hpR
    rw [hlen, List.take_length] at hp
    have eH : Ex H0 H := e1.trans (h1.trans h2)
    obtain ⟨zs, z1, z2, z3⟩ := prd_zip hp
    walk_at "k"
    have hl : SqL K H f (zs.map (·.1)) := by
      rw [z1]
      exact sq_of hf
    have hk : ∀ z ∈ zs, spLine K [z.1] H (fun v H' => v = .str (line z.2) ∧ H' = H) (fun _ _ _ => False) := fun z hz => by
      refine ⟨z.1, z.2, rfl, (z3 z hz).ex h2, g.good z.2 ?_, rfl, rfl⟩
      rw [← z2]
      exact List.mem_map_of_mem hz
    refine ⟨f, zs, rfl, rfl, hl, hk, ?_⟩
    intro p (ys : List (V × Rl)) np hys hsrt
    have hm : ∀ z : V × Rl, z ∈ ys → RuleT K H z.1 z.2 := fun z hz => (z3 z (hys.mem_iff.mp hz)).ex h2
    clear hk hl z3 h1 h2 hp hf
    have np0 : H0 p = none := by
      cases w : H0 p with
      | none => rfl
      | some o => rw [eH p o w] at np; cases np
    have hpp := rules_out np hm
    have hpe : (ys.map (·.2)).Perm R := by
      rw [← z2]
      exact hys.map _
    have hss := srt_map hsrt
    have e9 : Ex H0 (upd H p (.lst (ys.map (·.1)))) := eH.trans (Evl.Ex.new np)
    have z9 : upd H p (.lst (ys.map (·.1))) p = some (.lst (ys.map (·.1))) := upd_same
    exact q _ p _ (ys.map (·.2)) e9 np0 z9 hpp hpe hss
end
end Tk
namespace Tk
open PySem PySem.Spec PyProof.Rows L2
open Evl (Ex ex_l ex_t ex_rd sq_of st_of fresh_back)
open StX (tStar pa_star)
local macro_rules | `(tactic| walk_at "g") => `(tactic| (repeat (first
  | (with_reducible refine g_seq ?_) | (with_reducible refine g_asg ?_) | (with_reducible refine g_name ?_) | (with_reducible refine g_sub ?_)
  | ((with_reducible refine' g_var ?e ?_); (case e => exact rfl)) | (with_reducible refine g_c ?_) | (with_reducible refine g_op ?_) | (with_reducible refine g_un ?_) | (with_reducible refine g_U ?_)
  | (with_reducible refine g_I0 ?_) | (with_reducible refine g_eqI ?_) | (with_reducible refine g_neI ?_) | (with_reducible refine g_eqS ?_) | (with_reducible refine g_neS ?_) | (with_reducible refine g_eqB ?_) | (with_reducible refine g_neB ?_)
  | (with_reducible refine g_test ?_) | (with_reducible refine g_tB ?_) | (with_reducible refine g_bl ?_) | (with_reducible refine g_and ?_) | (with_reducible refine g_or ?_) | (with_reducible refine g_not ?_)
  | (with_reducible refine g_andV ?_) | (with_reducible refine g_orV ?_) | (with_reducible refine g_notV ?_) | (with_reducible refine g_ifE ?_) | (with_reducible refine g_ifS ?_)
  | (with_reducible refine g_next ?_) | (with_reducible refine g_ret ?_) | (with_reducible refine g_drop ?_) | (with_reducible refine g_nil ?_) | (with_reducible refine g_cons ?_) | (with_reducible refine g_call ?_)
  | (with_reducible refine g_cb ?_) | (with_reducible refine g_bm ?_) | (with_reducible refine g_lst ?_) | (with_reducible refine g_tup ?_) | (with_reducible refine iteT ?_) | (with_reducible refine iteF ?_) | (with_reducible refine g_nt ?_) | (with_reducible refine g_nf ?_)
  | (with_reducible refine g_par ?_) | (with_reducible refine g_par3 ?_) | (with_reducible refine g_two ?_) | (with_reducible refine g_three ?_) | (with_reducible refine g_ckw ?_) | (with_reducible refine g_yes ?_) | (with_reducible refine g_chain ?_) | (with_reducible refine g_gnil ?_) | (with_reducible refine g_gcons ?_) | (with_reducible refine g_fld ?_) | (with_reducible refine g_sfld ?_) | (with_reducible refine g_isN ?_) | (with_reducible refine g_nint ?_) | (with_reducible refine g_nintB ?_) | (with_reducible refine g_max ?_) | (with_reducible refine g_min ?_))))
local macro_rules | `(tactic| walk_at "k") => `(tactic| (repeat (first
  | (with_reducible refine g_seq ?_) | (with_reducible refine g_asg ?_) | (with_reducible refine g_name ?_) | (with_reducible refine g_sub ?_)
  | ((with_reducible refine' g_var ?e ?_); (case e => exact rfl)) | (with_reducible refine g_c ?_) | (with_reducible refine g_op ?_) | (with_reducible refine g_un ?_) | (with_reducible refine g_U ?_)
  | (with_reducible refine g_I0 ?_) | (with_reducible refine g_eqI ?_) | (with_reducible refine g_neI ?_) | (with_reducible refine g_eqS ?_) | (with_reducible refine g_neS ?_) | (with_reducible refine g_eqB ?_) | (with_reducible refine g_neB ?_)
  | (with_reducible refine g_test ?_) | (with_reducible refine g_tB ?_) | (with_reducible refine g_bl ?_) | (with_reducible refine g_and ?_) | (with_reducible refine g_or ?_) | (with_reducible refine g_not ?_)
  | (with_reducible refine g_andV ?_) | (with_reducible refine g_orV ?_) | (with_reducible refine g_notV ?_) | (with_reducible refine g_ifE ?_)
  | (with_reducible refine g_next ?_) | (with_reducible refine g_ret ?_) | (with_reducible refine g_drop ?_) | (with_reducible refine g_nil ?_) | (with_reducible refine g_cons ?_) | (with_reducible refine g_call ?_)
  | (with_reducible refine g_cb ?_) | (with_reducible refine g_bm ?_) | (with_reducible refine g_lst ?_) | (with_reducible refine g_tup ?_) | (with_reducible refine iteT ?_) | (with_reducible refine iteF ?_) | (with_reducible refine g_nt ?_) | (with_reducible refine g_nf ?_)
  | (with_reducible refine g_par ?_) | (with_reducible refine g_par3 ?_) | (with_reducible refine g_two ?_) | (with_reducible refine g_three ?_) | (with_reducible refine g_ckw ?_) | (with_reducible refine g_yes ?_) | (with_reducible refine g_chain ?_) | (with_reducible refine g_gnil ?_) | (with_reducible refine g_gcons ?_) | (with_reducible refine g_fld ?_) | (with_reducible refine g_sfld ?_) | (with_reducible refine g_isN ?_) | (with_reducible refine g_nint ?_) | (with_reducible refine g_nintB ?_) | (with_reducible refine g_max ?_) | (with_reducible refine g_min ?_))))
/-- a book that holds the rules R -/
def BookAt (K : PySem.W.Frag) (H : Hp) (v : V) (R : List Rl) : Prop := ∃ (b dx t : Addr) (fs : List (Str × V)) (ys : List V), v = .ref b ∧ H b = some (.ins (He.ga K "Book") dx fs) ∧ fs.lookup ("own_rules" : Str) = some (.ref t) ∧ SqT K H t ys ∧ Paired (RuleT K H) ys R
theorem BookAt.ex {K : PySem.W.Frag} {H H' : Hp} {v : V} {R : List Rl} (h : BookAt K H v R) (e : Ex H H') : BookAt K H' v R := by
  obtain ⟨b, dx, t, fs, ys, h1, h2, h3, h4, h5⟩ := h
  exact ⟨b, dx, t, fs, ys, h1, e _ _ h2, h3, ex_t e h4, prd_mono (fun _ _ z => z.ex e) h5⟩
def spBookInit (K : PySem.W.Frag) : Sp := fun vs H Q _ => ∃ (b dx a : Addr) (xs : List V) (R : List Rl), vs = [.ref b, .ref a] ∧ H b = some (.ins (He.ga K "Book") dx []) ∧ Seq K (del H b) a xs ∧ Paired (RuleQ K (del H b)) xs R ∧ Goods R ∧
  ∀ H' S, Ex (del H b) H' → BookAt K H' (.ref b) S → S.Perm R → Srt S → Q .non H'
section
variable {K : PySem.W.Frag} {σ : L2.St} {H : Hp} {Q : VK} {ta : TA} {te : TE}
theorem g_star {QA : List V → Hp → Prop} (h : te σ H fun x H1 => ∃ p xs, x = V.ref p ∧ (SqT K H1 p xs ∨ SqL K H1 p xs) ∧ ta σ H1 fun ys H2 => QA (xs ++ ys) H2) : tStar K te ta σ H QA := h
theorem g_maxL {a : Addr} {ns : List Int} (hl : SqL K H a (ns.map V.int)) (h0 : 0 < ns.length) (h : ∀ m ∈ ns, Q (.int m) H) : rMax K [.ref a] H Q := ⟨a, ns, rfl, hl, h0, fun m hm _ => h m hm⟩
end
section
variable {P : Program} {w : World} {K : PySem.W.Frag} {mg : Str → Option Value} {base : Heap}
theorem sc_Book_init : FnScope ["self", "rules", "rule"] ["self", "rules"] (defScope st_Book_init) := ⟨rfl, rfl, rfl, by decide +kernel, rfl, by decide +kernel, by decide +kernel⟩
theorem ok_Book_init (T : Txt K mg) {fd : FuncData} (F : FunD K "__init__" "Book.__init__" (defArgs st_Book_init) (defBody st_Book_init) (defScope st_Book_init) [] [] (He.ma K (He.ga K "Book") "__init__") fd) :
    FnOk P w K mg base CX0 5 (He.ma K (He.ga K "Book") "__init__") fd ["self", "rules"] (spBookInit K) := by
  have G_checked_rules := ok_checked_rules (P := P) (w := w) (base := base) T
  have G_multiple := ok_multiple (P := P) (w := w) (base := base) T
  refine F.ok sc_Book_init (fun vs H Q E h => ?_) (fun cdv A outer s H0 vs Q E hr h => ?_)
  · obtain ⟨b, dx, a, xs, R, rfl, _⟩ := h
    rfl
  · obtain ⟨b, dx, a, xs, R, rfl, hb, hs, hp, g, q⟩ := h
    refine ⟨_, ((pss_cons (ps_fld (pv 0) (pe_callTy cTup (by rfl) T.f_tuple (by decide +kernel) (pa_cons (pe_c G_checked_rules (hr.mono (by decide)) pass0 (pa_cons (pv 1) pa_nil)) pa_nil)) rfl)
      (pss_cons (ps_fld (pv 0) (pe_callB (cr_max rfl) (by rfl) T.f_max (by decide +kernel) (pa_cons (pe_lst (pa_cons pe_int (pa_star (pe_lc rfl (own := [("rule", 2)]) sc_Book_init.nd (pi_q (pe_fld (pv 0) rfl)) (blkOk_by (own := [("rule", 2)]) (N := ["self", "rules", "rule"]) (sc := defScope st_Book_init) (by decide +kernel)) (fun _ _ _ _ _ => (pg_name (i := 2) sc_Book_init.nd rfl (Or.inl rfl))) (fun _ _ _ _ _ => pts_nil) (fun _ _ _ _ _ => (pe_ifExp (pt_cmpR op_isN (pe_ix (ixT K) (pv 2) pe_int (fun _ _ => rfl)) pe_non (nomark _)) (pe_ix (ixT K) (pv 2) pe_int (fun _ _ => rfl)) (pe_ix (ixT K) (pv 2) pe_int (fun _ _ => rfl))))) pa_nil))) pa_nil)) rfl)
      (pss_cons (ps_fld (pv 0) pe_int rfl)
      (pss_cons (ps_for PassesOwn.never rfl (pi_q (pe_fld (pv 0) rfl)) (pg_name (i := 2) sc_Book_init.nd rfl (Or.inl rfl)) (pss_one (ps_fld (pv 0) (pe_c G_multiple (hr.mono (by decide)) pass0 (pa_cons (pe_fld (pv 0) rfl) (pa_cons (pe_ix (ixT K) (pv 2) pe_int (fun _ _ => rfl)) pa_nil))) rfl)))
      (pss_one (ps_fld (pv 0) (pe_callB (cr_any rfl) (by rfl) T.f_any (by decide +kernel) (pa_cons (pe_lc rfl (own := [("rule", 2)]) sc_Book_init.nd (pi_q (pe_fld (pv 0) rfl)) (blkOk_by (own := [("rule", 2)]) (N := ["self", "rules", "rule"]) (sc := defScope st_Book_init) (by decide +kernel)) (fun _ _ _ _ _ => (pg_name (i := 2) sc_Book_init.nd rfl (Or.inl rfl))) (fun _ _ _ _ _ => pts_nil) (fun _ _ _ _ _ => (pe_cmpR op_isN (pe_ix (ixT K) (pv 2) pe_int (fun _ _ => rfl)) pe_non (nomark _)))) pa_nil)) rfl))))))).nox, ?_⟩
    walk_at "k"
    refine ⟨a, xs, R, rfl, hs.ex del_ex, prd_mono (fun _ _ z => z.ex del_ex) hp, g, fun H1 p ys S e1 np1 hp1 hS hperm hsrt => ?_⟩
    walk_at "k"
    refine g_tupL (sq_of hp1) fun t H2 nt e2 ht b2 => ?_
    walk_at "k"
    have hb2 := e2 _ _ (e1 _ _ hb)
    refine g_sfldV hb2 T.bookC T.bookN1 (of_decide_eq_true (by rfl)) fun H3 b3 h3 => ?_
    have gS : Goods S := g.perm hperm
    have hS2 : Paired (RuleT K (del H2 b)) ys S := prd_mono (fun _ _ z => (z.ex e2).del hb2) hS
    have ht2 : SqT K (del H2 b) t ys := sqT_del (st_of ht) hb2
    have e0 : Ex (del H0 b) (del H2 b) := ex_del (del_ex.trans (e1.trans e2)) del_same
    have e23 : Ex (del H2 b) H3 := del_but b3
    have step : ∀ {H H' : Hp}, Ex (del H2 b) H → But b H H' → Ex (del H2 b) H' := fun e z => ex_but e del_same z
    have lenS : S.length ≤ 6 := gS.len
    have hlen : ys.length = S.length := prd_len hS2
    -- own_most
    walk_at "k"
    refine g_star ?_
    refine g_lcQ (a := t) (xs := ys) (G := del H2 b) (fun R hR => ?_) (.inr ht2) e23 fun L hL => ⟨fun _ ac H => Ex H3 H ∧ ∃ ns : List Int, ac = ns.map V.int, fun H4 b4 e4 _ => ⟨e4, [], rfl⟩, fun _ _ _ z => e23.trans z.1, ?_, ?_⟩
    · walk_at "k"
      refine g_fldV h3 T.bookC T.bookN1 rfl ?_
      exact hR
    · rintro j ac y H4 hy hl hL4 ⟨e4, ns, rfl⟩
      obtain ⟨r, hr', a', rfl, ht'⟩ := prd_get hS2 hy
      have ht4 := ex_t (e23.trans e4) ht'
      have hj : j < 100000 := by
        have := (List.getElem?_eq_some_iff.mp hr').1
        omega
      have more : ∀ n : Int, LcT L (fun _ ac H => Ex H3 H ∧ ∃ ns : List Int, ac = ns.map V.int) (j + 1) (.int n) H4 := fun n => by
        refine lcT_of hl hj hL4 fun H6 b6 h6 => ⟨ex_but e4 hL b6, ns ++ [n], by rw [List.map_append]; rfl⟩
      refine g_lcs ?_
      walk_at "k"
      refine ⟨rfl, ?_⟩
      walk_at "k"
      refine g_ixT ht4 rfl ?_
      walk_at "k"
      cases hh : r.hi with
      | none =>
        rw [show decide (hv none = V.non) = true from rfl]
        walk_at "k"
        refine g_ixT ht4 rfl ?_
        exact more _
      | some k =>
        rw [show decide (hv (some k) = V.non) = false from rfl]
        walk_at "k"
        refine g_ixT ht4 rfl ?_
        rw [hh]
        exact more _
    rintro ac H4 hal hL4 ⟨e4, ns, rfl⟩
    refine ⟨L, _, rfl, .inr (sq_of hL4), ?_⟩
    walk_at "k"
    rw [List.append_nil]
    refine g_new (sz ?_) fun M H5 nM e5 hM b5 => ?_
    · rw [List.length_cons]
      omega
    walk_at "k"
    refine g_maxL (ns := 0 :: ns) (sq_of hM) (Nat.zero_lt_succ _) fun m _ => ?_
    walk_at "k"
    have hb5 := e5 _ _ (e4 _ _ h3)
    refine g_sfldV hb5 T.bookC T.bookN2 (of_decide_eq_true (by rfl)) fun H6 b6 h6 => ?_
    have e6 : Ex (del H2 b) H6 := step (e23.trans (e4.trans e5)) b6
    walk_at "k"
    refine g_sfldV h6 T.bookC T.bookN3 (of_decide_eq_true (by rfl)) fun H7 b7 h7 => ?_
    have e7 : Ex (del H2 b) H7 := step e6 b7
    walk_at "k"
    refine g_forQ (a := t) (xs := ys) (G := del H2 b) (fun R hR => ?_) (.inr ht2) e7 (fun i σ H => ∃ (o2 : Option V) (n : Int), σ = [some (.ref b), some (.ref a), o2] ∧ Ex (del H2 b) H ∧ 1 ≤ n ∧ n ≤ 6 ^ i ∧ H b = some (.ins (He.ga K "Book") dx [("own_rules", .ref t), ("own_most", .int m), ("own_turn", .int n)])) ?_ ?_ ?_ ?_
    · walk_at "k"
      refine g_fldV h7 T.bookC T.bookN1 rfl ?_
      exact hR
    · exact ⟨none, 1, rfl, e7, Int.le_refl _, by decide, h7⟩
    · rintro i σ H ⟨_, _, _, z, _⟩
      exact z
    · rintro i x σ H hx ⟨o2, n, rfl, eH, n1, n2, hbH⟩
      obtain ⟨r, hr', a', rfl, ht'⟩ := prd_get hS2 hx
      have gr := gS.good r (List.mem_of_getElem? hr')
      have hi := (List.getElem?_eq_some_iff.mp hr').1
      have p6 : (6 : Int) ^ i ≤ 6 ^ 5 := by
        have : i = 0 ∨ i = 1 ∨ i = 2 ∨ i = 3 ∨ i = 4 ∨ i = 5 := by omega
        rcases this with rfl | rfl | rfl | rfl | rfl | rfl <;> decide
      have p7 : (6 : Int) ^ 5 = 7776 := by decide
      walk_at "k"
      refine g_fldV hbH T.bookC T.bookN3 rfl ?_
      walk_at "k"
      refine g_ixT (ex_t eH ht') rfl ?_
      walk_at "k"
      refine ⟨n, r.mo, rfl, n1, by omega, gr.mo1, gr.mo6, fun z z1 z2 => ?_⟩
      walk_at "k"
      refine g_sfldV hbH T.bookC T.bookN3 (of_decide_eq_true (by rfl)) fun H8 b8 h8 => ?_
      walk_at "k"
      refine ⟨_, z, rfl, step eH b8, z1, ?_, h8⟩
      have h1 : n * r.mo ≤ 6 ^ i * 6 := Int.mul_le_mul n2 gr.mo6 (by have := gr.mo1; omega) (Int.pow_nonneg (by decide))
      rw [Int.pow_succ]
      exact Int.le_trans z2 h1
    rintro σ H ⟨o2, n, rfl, eH, n1, n2, hbH⟩
    walk_at "k"
    refine g_lcQ (a := t) (xs := ys) (G := del H2 b) (fun R hR => ?_) (.inr ht2) eH fun L8 hL8 => ⟨fun _ ac H' => Ex H H' ∧ ∃ bs : List Bool, ac = bs.map V.bl, fun H9 b9 e9 _ => ⟨e9, [], rfl⟩, fun _ _ _ z => eH.trans z.1, ?_, ?_⟩
    · walk_at "k"
      refine g_fldV hbH T.bookC T.bookN1 rfl ?_
      exact hR
    · rintro j ac y H9 hy hl hL9 ⟨e9, bs, rfl⟩
      obtain ⟨r, hr', a', rfl, ht'⟩ := prd_get hS2 hy
      have hj : j < 100000 := by
        have := (List.getElem?_eq_some_iff.mp hr').1
        omega
      refine g_lcs ?_
      walk_at "k"
      refine ⟨rfl, ?_⟩
      walk_at "k"
      refine g_ixT (ex_t (eH.trans e9) ht') rfl ?_
      walk_at "k"
      exact lcT_of hl hj hL9 fun Hx bx hx' => ⟨ex_but e9 hL8 bx, bs ++ [decide (hv r.hi = V.non)], by rw [List.map_append]; rfl⟩
    rintro ac H9 _ hL9 ⟨e9, bs, rfl⟩
    walk_at "k"
    refine g_any (sq_of hL9) ?_
    walk_at "k"
    refine g_sfldV (e9 _ _ hbH) T.bookC T.bookN4 (of_decide_eq_true (by rfl)) fun H10 b10 h10 => ?_
    walk_at "k"
    have eF := step (eH.trans e9) b10
    exact q H10 S (e0.trans eF) ⟨b, dx, t, _, ys, rfl, h10, rfl, ex_t eF ht2, prd_mono (fun _ _ z => z.ex eF) hS2⟩ hperm hsrt
end
end Tk
namespace Tk
open PySem PySem.Spec PyProof.Rows L2
open Evl (Ex ex_l ex_t ex_rd sq_of st_of fresh_back)
/-! ### d.update(e), both dicts -/
def rUpdD : V → List V → Hp → VK → Prop := fun x ys H Q => ∃ (d o : Addr) (kvs more : List (Key × V)), x = V.ref d ∧ ys = [V.ref o] ∧ d ≠ o ∧ H d = some (.dK kvs) ∧ H o = some (.dK more) ∧ kvs.length + more.length ≤ sizeLine ∧ Q .non (upd H d (.dK (mergeK kvs more)))
theorem mt_updD {X : Cx} : MtR X "dict.update" rUpdD := by
  intro pins s σ H x ys v us Q I rx ry h
  obtain ⟨d, o, kvs, more, rfl, rfl, hne, hd, ho, hz, q⟩ := h
  cases rx
  obtain rfl := Vals.ref1 ry
  obtain ⟨z1, s1, vs, r1, d1⟩ := dk_of I.hok hd
  obtain ⟨z2, s2, ws, r2, d2⟩ := dk_of I.hok ho
  refine call_meetsIn PySem.F.slot_dict_update d1.typeIs PySem.F.entry_dict_update (PySem.F.args_dict_update_2 _ _) (meets_dict_update (mixKind X.prog X.w) d o hne s2) ⟨vs, ws, d1, d2, by rw [← r1.length, ← r2.length]; exact hz, fun h' e1 e2 hs => ?_⟩
  have hl : (mergeK kvs more).length ≤ sizeLine := Nat.le_trans (length_mergeK more kvs) hz
  have he : ∃ q, h'.get? d = some q := by
    obtain ⟨q, _, _, hq, _⟩ := e1
    exact ⟨q, hq⟩
  exact ⟨.non, _, d_write I (by rw [hd]; exact True.intro) hs he (dk_new hl s1 (r2.merge r1) e1), rfl, q⟩
theorem g_updD {d o : Addr} {kvs more : List (Key × V)} {H : Hp} {Q : VK} (hne : d ≠ o) (hd : H d = some (.dK kvs)) (ho : H o = some (.dK more)) (hz : kvs.length + more.length ≤ 100000) (h : ∀ H', But d H H' → H' d = some (.dK (mergeK kvs more)) → Q .non H') : rUpdD (.ref d) [.ref o] H Q :=
  ⟨d, o, kvs, more, rfl, rfl, hne, hd, ho, sz hz, h _ (fun _ hb => upd_ne hb) upd_same⟩
/-! ### sorted of lists of ints -/
def rSortLs (K : PySem.W.Frag) : List V → Hp → VK → Prop := fun vs H Q => ∃ (a : Addr) (zs : List (V × List Int)), vs = [V.ref a] ∧ SqL K H a (zs.map (·.1)) ∧ (∀ z ∈ zs, ∃ b, z.1 = V.ref b ∧ SqL K H b (z.2.map V.int)) ∧
  ∀ p (ys : List (V × List Int)), H p = none → ys.Perm zs → Q (.ref p) (upd H p (.lst (ys.map (·.1))))
def encL (z : V × List Int) : PyData := .list (z.2.map PyData.int)
theorem alike_ints : ∀ ns ms : List Int, PySem.W.alikeAll (ns.map PyData.int) (ms.map PyData.int) = true
  | [], _ => by simp [PySem.W.alikeAll]
  | n :: ns, [] => by simp [PySem.W.alikeAll]
  | n :: ns, m :: ms => by simp [PySem.W.alikeAll, PySem.W.alike, alike_ints ns ms]
theorem each_of {zs : List (V × List Int)} : ∀ {us : List Value}, Vals (zs.map (·.1)) us → PySem.W.EachIs (fun v (z : V × List Int) => RelV z.1 v) us zs := by
  induction zs with
  | nil =>
    intro us r
    cases r
    exact .nil
  | cons z zs ih =>
    intro us r
    cases r with
    | cons h t => exact .cons h (ih t)
theorem of_each {zs : List (V × List Int)} : ∀ {us : List Value}, PySem.W.EachIs (fun v (z : V × List Int) => RelV z.1 v) us zs → Vals (zs.map (·.1)) us := by
  induction zs with
  | nil =>
    intro us r
    cases r
    exact .nil
  | cons z zs ih =>
    intro us r
    cases r with
    | cons h t => exact .cons h (ih t)
theorem each_imp {α β : Type} {P Q : α → β → Prop} : ∀ {xs : List α} {ys : List β}, (∀ y ∈ ys, ∀ x, P x y → Q x y) → PySem.W.EachIs P xs ys → PySem.W.EachIs Q xs ys
  | _, _, _, .nil => .nil
  | _, _, h, .cons a t => .cons (h _ List.mem_cons_self _ a) (each_imp (fun y hy => h y (List.mem_cons_of_mem _ hy)) t)
theorem cr_sortLs {X : Cx} (hu : X.A.units + 65 < cLine) : CallR X (.builtin "sorted") (rSortLs X.K) := by
  intro pins s σ H vs us Q I r h
  obtain ⟨a, zs, rfl, hs, hx, q⟩ := h
  obtain ⟨its, rv, hl, hz⟩ := I.list hs
  rw [Vals.ref1 r]
  rw [List.length_map] at hz
  have hE := each_of rv
  have hR : PySem.W.EachIs (fun v (z : V × List Int) => ∃ as, Reads s.heap v (encL z) as) its zs := each_imp (fun z hz v rz => by
    obtain ⟨b, e, hb⟩ := hx z hz
    exact Dp.reads I (encL z) z.1 v (by rw [e]; exact dp_il hb) rz) hE
  have hal : PySem.W.AllAlike (zs.map encL) := fun d hd d' hd' => by
    obtain ⟨z, _, rfl⟩ := List.mem_map.mp hd
    obtain ⟨z', _, rfl⟩ := List.mem_map.mp hd'
    simp only [encL, PySem.W.alike]
    exact alike_ints _ _
  have hso : PySem.W.Sortable (zs.map encL) := .inr fun d hd => by
    obtain ⟨z, _, rfl⟩ := List.mem_map.mp hd
    exact ⟨fun e => (by cases e), fun xs e => (by cases e)⟩
  have hdp : ∀ z ∈ zs, X.A.units + 2 + (encL z).depth < cLine := fun z _ => by
    have := ints_depth z.2
    simp only [encL, PyData.depth]
    omega
  refine PySem.W.sorted_data hl.isList hE hR hal hso hz hdp fun out hlen hout => ?_
  have hp : (zs.mergeSort (PySem.W.dataLe false encL)).Perm zs := List.mergeSort_perm _ _
  obtain ⟨ep, he'⟩ := PyProof.Rows.sortedAll_at s.heap its out.toArray
  have hlen2 : ((zs.mergeSort (PySem.W.dataLe false encL)).map (·.1)).length ≤ sizeLine := by
    rw [List.length_map, hp.length_eq]
    exact hz
  have new : ObjOk X.prog X.w (upd H (s.heap.objs.size + 1) (.lst ((zs.mergeSort (PySem.W.dataLe false encL)).map (·.1)))) (sortedAll s.heap its out.toArray) (s.heap.objs.size + 1) (.lst ((zs.mergeSort (PySem.W.dataLe false encL)).map (·.1))) := ⟨hlen2, out, ep, of_each hout, he'⟩
  exact ⟨.ref _, _, I.laid (t' := s.toks) (fun _ _ => PyProof.Rows.sortedAll_old) (Nat.le_succ _) new, rfl, q _ _ (I.hok.fresh (Nat.le_succ _)) hp⟩
/-! ### sorted of a list or a tuple of ints -/
section
variable {prog : Program} {w : World} {A : Around} {E : Value → Shared → Prop} {s : Shared}
theorem collect_tup {l : Addr} {vs : List Value} {ob : Obj} {n : Nat} {Q : List Value → Shared → Prop} (ho : s.heap.get? l = some ob) (hc : ob.cls = .type "tuple") (hd : ob.data = .seq vs.toArray n) (hsz : vs.length ≤ sizeLine)
    (h : Q vs { s with heap := (s.heap.push (seqObj "list" #[] 0)).update s.heap.objs.size (Obj.mapSeq (· ++ vs.toArray)) }) : wpAny (model prog w) A (collect (.ref l)) Q E s := by
  unfold collect
  refine wpAny_bind (wpAny_runValue (codeAny_builtin entry_proto_collect' ?_))
  show wpAny _ _ (newList [] >>= fun y => again (.builtin "list.__iadd__" ⟨[y, .ref l], []⟩)) _ _ s
  refine wpAny_bind (wpAny_newList (wpAny_pure ⟨Code.quiet_builtin _ (by decide +kernel), codeAny_builtin entry_list_iadd' ?_⟩))
  show wpAny _ _ (Builtin.List.listExtendWith (.ref s.heap.objs.size) (.ref l) (.ref s.heap.objs.size)) _ _ { s with heap := s.heap.push (seqObj "list" #[] 0) }
  have hq : (s.heap.push (seqObj "list" #[] 0)).get? l = some ob := Heap.get?_push_of_some _ ho
  have hn : (s.heap.push (seqObj "list" #[] 0)).get? s.heap.objs.size = some (seqObj "list" #[] 0) := Heap.get?_push_size _ rfl
  have ht : (Value.type "tuple" == Value.type "tuple") = true := by rfl
  unfold Builtin.List.listExtendWith
  refine wpAny_bind (wpAny_typeOf (T := "tuple") ⟨ob, hq, hc⟩ ?_)
  rw [if_pos (by rw [ht]; simp)]
  refine wpAny_bind (listItems_at hq hd (wpAny_bind (listItems_at hn rfl ?_)))
  rw [if_neg (by simp)]
  refine wpAny_bind (listUpdate_at hn rfl ?_ (Nat.zero_le _) (by show (#[] ++ vs.toArray).size ≤ sizeLine + 1; simp only [Array.size_append, List.size_toArray, List.length_nil]; omega))
  refine wpAny_pure ?_
  show wpAny (model prog w) A (load s.heap.objs.size >>= fun o => match o.data with
      | .seq xs _ => pure xs.toList
      | _ => unsupported "internal:collect") Q E _
  refine wpAny_bind (wpAny_load (get?_update_seq hn _) ?_)
  show wpAny _ _ (pure ((#[] : Array Value) ++ vs.toArray).toList) Q E _
  have e : ((#[] : Array Value) ++ vs.toArray).toList = vs := by simp
  rw [e]
  exact wpAny_pure h
theorem sorted_ordT {l : Addr} {vs : List Value} {ltv : Value → Value → Bool} {ob : Obj} {n : Nat} {Q : Value → Shared → Prop} (O : SrtO.Swo ltv) (ho : s.heap.get? l = some ob) (hc : ob.cls = .type "tuple") (hd : ob.data = .seq vs.toArray n) (hz : vs.length ≤ sizeLine)
    (hS : 2 ≤ vs.length → ∀ (h₁ : Heap) (a : Addr), SrtO.SortableO prog w A.in1.in1 { s with heap := h₁ } a vs ltv)
    (h : ∀ out : List Value, SrtO.Srtd ltv out → SrtO.Stb ltv out vs → Q (.ref (s.heap.objs.size + 1)) { s with heap := sortedAll s.heap vs out.toArray }) : wpAny (model prog w) A (call (.builtin "sorted") [.ref l]) Q E s := by
  refine Calls.call_function_entry kind_sorted plain_sorted entry_sorted (args_sorted1 _) ?_
  unfold Builtin.«sorted»
  refine wpAny_bind (m := checkCount "sorted" 1 1 _) (wpAny_pure (wpAny_bind (collect_tup ho hc hd hz ?_)))
  refine wpAny_bind (wpAny_newList ?_ hz)
  have z1 : ((s.heap.push (seqObj "list" #[] 0)).update s.heap.objs.size (Obj.mapSeq (· ++ vs.toArray))).objs.size = s.heap.objs.size + 1 := by rw [Heap.size_update, size_push']
  have hoL : (((s.heap.push (seqObj "list" #[] 0)).update s.heap.objs.size (Obj.mapSeq (· ++ vs.toArray))).push (seqObj "list" vs.toArray 0)).get? (s.heap.objs.size + 1) = some (seqObj "list" vs.toArray 0) := by
    rw [← z1]; exact Heap.get?_push_size _ rfl
  show wpAny _ _ _ _ _ { s with heap := ((s.heap.push (seqObj "list" #[] 0)).update s.heap.objs.size (Obj.mapSeq (· ++ vs.toArray))).push (seqObj "list" vs.toArray 0) }
  rw [z1]
  exact wpAny_bind (wpAny_holding (wpAny_call_entry slot_list_sort ⟨_, hoL, rfl⟩ entry_list_sort (SrtO.list_sort_ord O hoL hz (fun h2 => hS h2 _ _) fun out hs hb => ⟨_, rfl, wpAny_pure ⟨_, rfl, h out hs hb⟩⟩) (args_list_sort _)))
end
def rSortQ (K : PySem.W.Frag) : List V → Hp → VK → Prop := fun vs H Q => ∃ (a : Addr) (ns : List Int), vs = [V.ref a] ∧ Seq K H a (ns.map V.int) ∧ ∀ (ns' : List Int) (p : Addr), ns'.Perm ns → ns'.Pairwise (· ≤ ·) → H p = none → Q (.ref p) (upd H p (.lst (ns'.map V.int)))
theorem cr_sortQ {X : Cx} : CallR X (.builtin "sorted") (rSortQ X.K) := by
  intro pins s σ H vs us Q I r h
  obtain ⟨a, ns, rfl, hs, q⟩ := h
  rcases hs with hs | hs
  · exact cr_sortedI pins s σ H _ _ Q I r ⟨a, ns, rfl, hs, q⟩
  obtain ⟨its, rv, ⟨ob, ho, hc, n, hd⟩, hz⟩ := I.tuple hs
  rw [Vals.ref1 r]
  have hi := rv.ints
  refine sorted_ordT SrtO.swo_int ho hc hd (by rw [← rv.length]; exact hz) (fun h2 h₁ a' => SrtO.ints_sortable hi h2) fun out h1 h2 => ?_
  obtain ⟨k1, k2, k3⟩ := SrtO.ints_out hi h1 h2
  obtain ⟨ep, he'⟩ := PyProof.Rows.sortedAll_at s.heap its out.toArray
  have hlen : ((out.map SrtO.iv).map V.int).length ≤ sizeLine := by
    rw [List.length_map, k2.length_eq, ← List.length_map (f := V.int)]
    exact hz
  have new : ObjOk X.prog X.w (upd H (s.heap.objs.size + 1) (.lst ((out.map SrtO.iv).map V.int))) (sortedAll s.heap its out.toArray) (s.heap.objs.size + 1) (.lst ((out.map SrtO.iv).map V.int)) := ⟨hlen, out, ep, vals_of_ints k1, he'⟩
  exact ⟨.ref _, _, I.laid (t' := s.toks) (fun _ _ => PyProof.Rows.sortedAll_old) (Nat.le_succ _) new, rfl, q _ _ k2 k3 (I.hok.fresh (Nat.le_succ _))⟩
end Tk
namespace Tk
open PySem PySem.Spec PyProof.Rows L2
open Evl (Ex ex_l ex_t ex_rd sq_of st_of fresh_back)
local macro_rules | `(tactic| walk_at "g") => `(tactic| (repeat (first
  | (with_reducible refine g_seq ?_) | (with_reducible refine g_asg ?_) | (with_reducible refine g_name ?_) | (with_reducible refine g_sub ?_)
  | ((with_reducible refine' g_var ?e ?_); (case e => exact rfl)) | (with_reducible refine g_c ?_) | (with_reducible refine g_op ?_) | (with_reducible refine g_un ?_) | (with_reducible refine g_U ?_)
  | (with_reducible refine g_I0 ?_) | (with_reducible refine g_eqI ?_) | (with_reducible refine g_neI ?_) | (with_reducible refine g_eqS ?_) | (with_reducible refine g_neS ?_) | (with_reducible refine g_eqB ?_) | (with_reducible refine g_neB ?_)
  | (with_reducible refine g_test ?_) | (with_reducible refine g_tB ?_) | (with_reducible refine g_bl ?_) | (with_reducible refine g_and ?_) | (with_reducible refine g_or ?_) | (with_reducible refine g_not ?_)
  | (with_reducible refine g_andV ?_) | (with_reducible refine g_orV ?_) | (with_reducible refine g_notV ?_) | (with_reducible refine g_ifE ?_) | (with_reducible refine g_ifS ?_)
  | (with_reducible refine g_next ?_) | (with_reducible refine g_ret ?_) | (with_reducible refine g_drop ?_) | (with_reducible refine g_nil ?_) | (with_reducible refine g_cons ?_) | (with_reducible refine g_call ?_)
  | (with_reducible refine g_cb ?_) | (with_reducible refine g_bm ?_) | (with_reducible refine g_lst ?_) | (with_reducible refine g_tup ?_) | (with_reducible refine iteT ?_) | (with_reducible refine iteF ?_) | (with_reducible refine g_nt ?_) | (with_reducible refine g_nf ?_)
  | (with_reducible refine g_par ?_) | (with_reducible refine g_par3 ?_) | (with_reducible refine g_two ?_) | (with_reducible refine g_three ?_) | (with_reducible refine g_ckw ?_) | (with_reducible refine g_yes ?_) | (with_reducible refine g_chain ?_) | (with_reducible refine g_gnil ?_) | (with_reducible refine g_gcons ?_) | (with_reducible refine g_fld ?_) | (with_reducible refine g_sfld ?_) | (with_reducible refine g_isN ?_) | (with_reducible refine g_nint ?_) | (with_reducible refine g_nintB ?_) | (with_reducible refine g_max ?_) | (with_reducible refine g_min ?_))))
local macro_rules | `(tactic| walk_at "k") => `(tactic| (repeat (first
  | (with_reducible refine g_seq ?_) | (with_reducible refine g_asg ?_) | (with_reducible refine g_name ?_) | (with_reducible refine g_sub ?_)
  | ((with_reducible refine' g_var ?e ?_); (case e => exact rfl)) | (with_reducible refine g_c ?_) | (with_reducible refine g_op ?_) | (with_reducible refine g_un ?_) | (with_reducible refine g_U ?_)
  | (with_reducible refine g_I0 ?_) | (with_reducible refine g_eqI ?_) | (with_reducible refine g_neI ?_) | (with_reducible refine g_eqS ?_) | (with_reducible refine g_neS ?_) | (with_reducible refine g_eqB ?_) | (with_reducible refine g_neB ?_)
  | (with_reducible refine g_test ?_) | (with_reducible refine g_tB ?_) | (with_reducible refine g_bl ?_) | (with_reducible refine g_and ?_) | (with_reducible refine g_or ?_) | (with_reducible refine g_not ?_)
  | (with_reducible refine g_andV ?_) | (with_reducible refine g_orV ?_) | (with_reducible refine g_notV ?_) | (with_reducible refine g_ifE ?_)
  | (with_reducible refine g_next ?_) | (with_reducible refine g_ret ?_) | (with_reducible refine g_drop ?_) | (with_reducible refine g_nil ?_) | (with_reducible refine g_cons ?_) | (with_reducible refine g_call ?_)
  | (with_reducible refine g_cb ?_) | (with_reducible refine g_bm ?_) | (with_reducible refine g_lst ?_) | (with_reducible refine g_tup ?_) | (with_reducible refine iteT ?_) | (with_reducible refine iteF ?_) | (with_reducible refine g_nt ?_) | (with_reducible refine g_nf ?_)
  | (with_reducible refine g_par ?_) | (with_reducible refine g_par3 ?_) | (with_reducible refine g_two ?_) | (with_reducible refine g_three ?_) | (with_reducible refine g_ckw ?_) | (with_reducible refine g_yes ?_) | (with_reducible refine g_chain ?_) | (with_reducible refine g_gnil ?_) | (with_reducible refine g_gcons ?_) | (with_reducible refine g_fld ?_) | (with_reducible refine g_sfld ?_) | (with_reducible refine g_isN ?_) | (with_reducible refine g_nint ?_) | (with_reducible refine g_nintB ?_) | (with_reducible refine g_max ?_) | (with_reducible refine g_min ?_))))
/-! ### spans -/
def Cov (ps : List (Int × Int)) (x : Int) : Prop := ∃ p ∈ ps, p.1 ≤ x ∧ x ≤ p.2
theorem cov_app {a b : List (Int × Int)} {x : Int} : Cov (a ++ b) x ↔ Cov a x ∨ Cov b x := by
  constructor
  · rintro ⟨p, hp, h⟩
    rcases List.mem_append.mp hp with hp | hp
    · exact .inl ⟨p, hp, h⟩
    · exact .inr ⟨p, hp, h⟩
  · rintro (⟨p, hp, h⟩ | ⟨p, hp, h⟩)
    · exact ⟨p, List.mem_append_left _ hp, h⟩
    · exact ⟨p, List.mem_append_right _ hp, h⟩
theorem cov_one {p : Int × Int} {x : Int} : Cov [p] x ↔ p.1 ≤ x ∧ x ≤ p.2 := by
  constructor
  · rintro ⟨q, hq, h⟩
    rw [List.mem_singleton.mp hq] at h
    exact h
  · exact fun h => ⟨p, List.mem_singleton_self _, h⟩
def PairT (K : PySem.W.Frag) (H : Hp) (v : V) (p : Int × Int) : Prop := ∃ a, v = .ref a ∧ SqT K H a [.int p.1, .int p.2]
def PairH (H : Hp) (v : V) (p : Int × Int) : Prop := ∃ a, v = .ref a ∧ H a = some (.tup [.int p.1, .int p.2])
theorem PairT.ex {K : PySem.W.Frag} {H H' : Hp} {v : V} {p : Int × Int} (h : PairT K H v p) (e : Ex H H') : PairT K H' v p := by
  obtain ⟨a, h1, h2⟩ := h
  exact ⟨a, h1, ex_t e h2⟩
theorem PairH.ex {H H' : Hp} {v : V} {p : Int × Int} (h : PairH H v p) (e : Ex H H') : PairH H' v p := by
  obtain ⟨a, h1, h2⟩ := h
  exact ⟨a, h1, e _ _ h2⟩
theorem PairH.t {K : PySem.W.Frag} {H : Hp} {v : V} {p : Int × Int} (h : PairH H v p) : PairT K H v p := by
  obtain ⟨a, h1, h2⟩ := h
  exact ⟨a, h1, st_of h2⟩
theorem PairT.del {K : PySem.W.Frag} {H : Hp} {p : Addr} {ob : HO} {v : V} {r : Int × Int} (q : PairT K H v r) (h : H p = some ob) (ho : tupO ob = false := by rfl) : PairT K (del H p) v r := by
  obtain ⟨a, h1, h2⟩ := q
  exact ⟨a, h1, sqT_del h2 h ho⟩
theorem dp_pairs {K : PySem.W.Frag} {H : Hp} : ∀ {xs : List V} {ps : List (Int × Int)}, Paired (PairT K H) xs ps → DpAll K H xs (ps.map fun p => .tuple [.int p.1, .int p.2])
  | _, _, .nil => .nil
  | _, _, .cons a t => by
    obtain ⟨b, rfl, hb⟩ := a
    exact .cons (.tup hb (.cons (.int _) (.cons (.int _) .nil))) (dp_pairs t)
theorem pairs_lay : ∀ ps : List (Int × Int), PyData.canLayAll0 (ps.map fun p => .tuple [.int p.1, .int p.2]) = true
  | [] => by simp [PyData.canLayAll0]
  | p :: ps => by
    have := pairs_lay ps
    simp [PyData.canLayAll0, PyData.canLay0, this]
theorem pairs_depth : ∀ ps : List (Int × Int), PyData.depthAll (ps.map fun p => PyData.tuple [.int p.1, .int p.2]) ≤ 1
  | [] => by simp [PyData.depthAll]
  | p :: ps => by
    have h1 := pairs_depth ps
    simp only [List.map_cons, PyData.depthAll, PyData.depth]
    omega
theorem pairs_shaped (ps : List (Int × Int)) : SeqAt.shaped (.list (ps.map fun p => .tuple [.int p.1, .int p.2])) = true := by
  have h := pairs_depth ps
  unfold SeqAt.shaped
  rw [Bool.and_eq_true]
  refine ⟨by simp only [PyData.canLay0]; exact pairs_lay ps, decide_eq_true ?_⟩
  simp only [PyData.depth]
  omega
theorem eqv_nil (ds : List PyData) : PyData.eqv (.list ds) (.list []) = ds.isEmpty := by
  cases ds <;> simp [PyData.eqv, PyData.eqvAll]
theorem g_neNil {K : PySem.W.Frag} {H : Hp} {Q : VK} {a b : Addr} {ds : List PyData} {c : Bool} (ha : Dp K H (.ref a) (.list ds)) (sd : SeqAt.shaped (.list ds) = true) (hb : SqL K H b []) (e : (!ds.isEmpty) = c) (h : Q (.bl c) H) : rNeD K (.ref a) (.ref b) H Q :=
  ⟨.list ds, .list [], ha, .lst hb .nil, sd, by decide +kernel, by rw [eqv_nil, e]; exact h⟩
/-- the pair that stands at v -/
def kH (H : Hp) : V → Int × Int
  | .ref a => match H a with
    | some (.tup [.int i, .int j]) => (i, j)
    | _ => (0, 0)
  | _ => (0, 0)
theorem kH_of {H : Hp} {v : V} {p : Int × Int} (h : PairH H v p) : kH H v = p := by
  obtain ⟨a, rfl, h⟩ := h
  unfold kH
  dsimp only
  rw [h]
theorem g_sortP {K : PySem.W.Frag} {H : Hp} {Q : VK} {a : Addr} {xs : List V} {ps : List (Int × Int)} (hl : SqL K H a xs) (hp : Paired (PairH H) xs ps) (h : ∀ p H' ys qs, H p = none → Ex H H' → H' p = some (.lst ys) → Paired (PairH H) ys qs → qs.Perm ps → qs.Pairwise (fun x y => x.1 ≤ y.1) → Q (.ref p) H') : rSortedPO K [.ref a] H Q := by
  have hk : ∀ x ∈ xs, PairH H x (kH H x) := fun x hx => by
    obtain ⟨i, hi, e⟩ := List.getElem_of_mem hx
    obtain ⟨q, _, hq⟩ := prd_get hp (List.getElem?_eq_some_iff.mpr ⟨hi, e⟩)
    rw [kH_of hq]
    exact hq
  have hm : xs.map (kH H) = ps := by
    clear hk hl h
    induction hp with
    | nil => rfl
    | cons a t ih => rw [List.map_cons, ih, kH_of a]
  refine ⟨a, xs, kH H, rfl, hl, hk, fun ys p hs hb np => ?_⟩
  refine h p _ ys (ys.map (kH H)) np (Evl.Ex.new np) upd_same ?_ ?_ ?_
  · have : ∀ y ∈ ys, PairH H y (kH H y) := fun y hy => hk y (hb.perm.mem_iff.mp hy)
    clear hs hb h
    induction ys with
    | nil => exact .nil
    | cons y ys ih => exact .cons (this y List.mem_cons_self) (ih fun z hz => this z (List.mem_cons_of_mem _ hz))
  · rw [← hm]
    exact hb.perm.map _
  · refine List.pairwise_map.mpr (hs.imp fun {x y} z => ?_)
    have z2 := SrtO.lexB_no.mp (show SrtO.lexB (kH H y) (kH H x) = false from z)
    omega
theorem prd_snoc_inv {α β : Type} {P : α → β → Prop} : ∀ {ys : List β} {xs : List α} {y : β}, Paired P xs (ys ++ [y]) → ∃ xs0 x, xs = xs0 ++ [x] ∧ Paired P xs0 ys ∧ P x y
  | [], _, _, h => by
    cases h with
    | cons a t =>
      cases t
      exact ⟨[], _, rfl, .nil, a⟩
  | y0 :: ys, _, y, h => by
    cases h with
    | cons a t =>
      obtain ⟨xs0, x, rfl, h1, h2⟩ := prd_snoc_inv t
      exact ⟨_ :: xs0, x, rfl, .cons a h1, h2⟩
theorem pw_take {α : Type} {R : α → α → Prop} {rs : List α} (h : rs.Pairwise R) {i : Nat} {r p : α} (hr : rs[i]? = some r) (hp : p ∈ rs.take i) : R p r := by
  obtain ⟨hi, e⟩ := List.getElem?_eq_some_iff.mp hr
  obtain ⟨j, hj, e2⟩ := List.getElem_of_mem hp
  rw [List.length_take] at hj
  rw [List.getElem_take] at e2
  have := (List.pairwise_iff_getElem.mp h) j i (by omega) hi (by omega)
  rw [e, e2] at this
  exact this
theorem ixN_last {n : Nat} : ixN (n + 1) (-1) = some n := by
  unfold ixN
  rw [if_neg (by decide), if_pos (by omega)]
  congr 1
  omega
/-- bounds of a span -/
def Bn (C : Int) (p : Int × Int) : Prop := 1 ≤ p.1 ∧ p.1 ≤ p.2 ∧ p.2 ≤ C
def spJoined (K : PySem.W.Frag) : Sp := fun vs H Q _ => ∃ (a : Addr) (xs : List V) (ps : List (Int × Int)) (C : Int), vs = [.ref a] ∧ SqL K H a xs ∧ Paired (PairH H) xs ps ∧ ps.length ≤ 6 ∧ (∀ p ∈ ps, Bn C p) ∧
  ∀ H' l ys qs, Ex H H' → H l = none → H' l = some (.lst ys) → Paired (PairT K H') ys qs → qs.length ≤ 6 → (∀ x, Cov qs x ↔ Cov ps x) → (∀ q ∈ qs, Bn C q) → Q (.ref l) H'
section
variable {P : Program} {w : World} {K : PySem.W.Frag} {mg : Str → Option Value} {base : Heap}
theorem sc_joined : FnScope ["spans", "found", "low", "high"] ["spans"] (defScope st_joined) := ⟨rfl, rfl, rfl, by decide +kernel, rfl, by decide +kernel, by decide +kernel⟩
theorem ok_joined (T : Txt K mg) : Kept P w K mg base CX0 1 "joined" ["spans"] (spJoined K) := by
  refine kept0 T.d_joined sc_joined (fun vs H Q E h => ?_) (fun cdv A outer s H0 vs Q E hr h => ?_)
  · obtain ⟨a, xs, ps, C, rfl, _⟩ := h
    rfl
  · obtain ⟨a, xs, ps, C, rfl, hl, hp, h6, hb, q⟩ := h
    refine ⟨_, (pss_cons (ps_set (i := 1) sc_joined.nd rfl (Or.inl rfl) (pe_lst pa_nil))
      (pss_cons (ps_for PassesOwn.never rfl (pi_q (pe_callB cr_sortedPO (by rfl) T.f_sorted (by decide +kernel) (pa_cons (pv 0) pa_nil))) (pg_tup rfl (pgs_cons (pg_name (i := 2) sc_joined.nd rfl (Or.inl rfl)) (pgs_cons (pg_name (i := 3) sc_joined.nd rfl (Or.inl rfl)) pgs_nil))) (pss_one (ps_if (PW.pt (pw_and (pt_cmpR (op_neD hr.units) (pv 1) (pe_lst pa_nil) (nomark _)) (pw_and1 (pt_cmpR op_le (pv 2) (pe_op op_add (pe_ix (ixT K) (pe_ix ix_list (pv 1) (pe_un un_neg pe_int) (fun _ _ => rfl)) pe_int (fun _ _ => rfl)) pe_int) (nomark _))))) (pss_one (ps_asg (pe_tup (pa_cons (pe_ix (ixT K) (pe_ix ix_list (pv 1) (pe_un un_neg pe_int) (fun _ _ => rfl)) pe_int (fun _ _ => rfl)) (pa_cons (pe_callB (cMax rfl) (by rfl) T.f_max (by decide +kernel) (pa_cons (pv 3) (pa_cons (pe_ix (ixT K) (pe_ix ix_list (pv 1) (pe_un un_neg pe_int) (fun _ _ => rfl)) pe_int (fun _ _ => rfl)) pa_nil))) pa_nil))) (pg_sub (pv 1) (pe_un un_neg pe_int) set_list))) (pss_one (ps_expr (pe_bmK K PySem.F.plainAttrs_list PySem.F.slot_list_append PySem.F.type_list_append mt_append (pv 1) (pa_cons (pe_tup (pa_cons (pv 2) (pa_cons (pv 3) pa_nil))) pa_nil)))))))
      (pss_one (ps_ret (pv 1))))), ?_⟩
    walk_at "k"
    refine g_new (sz (by decide)) fun f H1 nf e1 hf b1 => ?_
    walk_at "k"
    refine g_forI ?_
    walk_at "k"
    refine g_sortP (ex_l e1 hl) (prd_mono (fun _ _ z => z.ex e1) hp) fun l H2 zs rs nl e2 hl2 hzs hperm hsrt => ?_
    have hf2 := e2 _ _ hf
    have hne : l ≠ f := fun z => by rw [z, hf] at nl; cases nl
    have hzd : Paired (PairT K (del H2 f)) zs rs := prd_mono (fun _ _ z => (PairH.t (z.ex e2)).del hf2) hzs
    have hbr : ∀ r ∈ rs, Bn C r := fun r hr => hb r (hperm.mem_iff.mp hr)
    refine over_for (G := del H2 f) (xs := zs) (.inl (sq_of (by rw [del_ne hne]; exact hl2))) del_ex (fun i σ H => ∃ (o2 o3 : Option V) (G : Hp) (acc : List V) (qs : List (Int × Int)), σ = [some (.ref a), some (.ref f), o2, o3] ∧ Ex (del H2 f) G ∧ Ex G H ∧ G f = none ∧ H f = some (.lst acc) ∧ Paired (PairT K G) acc qs ∧
      qs.length ≤ i ∧ (∀ x, Cov qs x ↔ Cov (rs.take i) x) ∧ (∀ q ∈ qs, Bn C q) ∧ (∀ q, qs.getLast? = some q → ∃ p ∈ rs.take i, q.1 = p.1)) ?_ ?_ ?_ ?_
    · refine ⟨none, none, del H2 f, [], [], rfl, fun _ _ z => z, del_ex, del_same, hf2, .nil, Nat.le_refl _, fun x => ?_, fun q hq => absurd hq (by simp), fun q hq => by simp at hq⟩
      rw [List.take_zero]
    · rintro i σ H ⟨_, _, G, _, _, _, h1, h2, _⟩
      exact h1.trans h2
    · rintro i x σ H hx ⟨o2, o3, G, acc, qs, rfl, h1, h2, nf', hfH, hq, hqi, hcov, hbn, hlast⟩
      obtain ⟨r, hr', b, rfl, hrt⟩ := prd_get hzd hx
      have hi6 : i < 6 := by
        have h3 := (List.getElem?_eq_some_iff.mp hr').1
        have h4 := hperm.length_eq
        omega
      have hbr' := hbr r (List.mem_of_getElem? hr')
      walk_at "k"
      refine g_gtup (ex_t (h1.trans h2) hrt) rfl ?_
      walk_at "k"
      refine g_ifS ?_
      walk_at "k"
      refine g_new (sz (by decide)) fun e H3 ne e3 he3 be3 => ?_
      have hf3 := e3 _ _ hfH
      have hq3 : Paired (PairT K H3) acc qs := prd_mono (fun _ _ z => z.ex (h2.trans e3)) hq
      rcases List.eq_nil_or_concat qs with hqs | ⟨qs0, q0, hqs⟩
      · refine g_neNil (c := false) (.lst (sq_of hf3) (dp_pairs hq3)) (pairs_shaped _) (sq_of he3) (by rw [hqs]; rfl) ?_
        walk_at "k"
        walk_at "k"
        refine ⟨ty_L hf3, ?_⟩
        walk_at "k"
        refine g_newT (sz (of_decide_eq_true rfl)) fun p H4 np e4 hp4 b4 => ?_
        have hf4 := e4 _ _ hf3
        walk_at "k"
        refine g_app hf4 (szl (by have := prd_len hq; omega)) fun H5 b5 h5 => ?_
        walk_at "k"
        refine ⟨_, _, del H4 f, acc ++ [.ref p], qs ++ [r], rfl, ex_del (h1.trans (h2.trans (e3.trans e4))) del_same, del_but b5, del_same, h5, ?_, ?_, ?_, ?_, ?_⟩
        · exact prd_app (prd_mono (fun _ _ z => (z.ex e4).del hf4) hq3) (.cons ⟨p, rfl, sqT_del (st_of hp4) hf4⟩ .nil)
        · rw [List.length_append]
          simp only [List.length_cons, List.length_nil]
          omega
        · intro x
          rw [take_snoc hr', cov_app, cov_app, hcov x]
        · intro q' hq'
          rcases List.mem_append.mp hq' with hq' | hq'
          · exact hbn q' hq'
          · rw [List.mem_singleton.mp hq']
            exact hbr'
        · intro q' hq'
          rw [List.getLast?_append, List.getLast?_singleton] at hq'
          cases hq'
          exact ⟨r, by rw [take_snoc hr']; exact List.mem_append_right _ (List.mem_singleton_self _), rfl⟩
      · refine g_neNil (c := true) (.lst (sq_of hf3) (dp_pairs hq3)) (pairs_shaped _) (sq_of he3) ?_ ?_
        · rw [hqs]
          simp
        rw [List.concat_eq_append] at hqs
        walk_at "k"
        obtain ⟨acc0, v0, hacc, hq0, b0, rfl, hb0⟩ := prd_snoc_inv (hqs ▸ hq3)
        have hf3' : H3 f = some (.lst (acc0 ++ [V.ref b0])) := by
          rw [hf3, hacc]
        refine g_ixL (sq_of hf3') (atI_last _ _) ?_
        walk_at "k"
        refine g_ixT hb0 rfl ?_
        walk_at "k"
        by_cases hc : r.1 ≤ q0.2 + 1
        · rw [decide_eq_true hc]
          walk_at "k"
          refine g_ixL (sq_of hf3') (atI_last _ _) ?_
          walk_at "k"
          refine g_ixT hb0 rfl ?_
          walk_at "k"
          refine g_ixL (sq_of hf3') (atI_last _ _) ?_
          walk_at "k"
          refine g_ixT hb0 rfl ?_
          walk_at "k"
          refine g_newT (sz (of_decide_eq_true rfl)) fun p H4 np e4 hp4 b4 => ?_
          have hf4 := e4 _ _ hf3'
          walk_at "k"
          refine g_setL hf4 (j := acc0.length) ?_ fun H5 b5 h5 => ?_
          · rw [List.length_append]
            exact ixN_last
          walk_at "k"
          obtain ⟨pl, hpl, el⟩ := hlast q0 (by rw [hqs, List.getLast?_append, List.getLast?_singleton]; rfl)
          have hle := pw_take hsrt hr' hpl
          have hb0' := hbn q0 (by rw [hqs]; exact List.mem_append_right _ (List.mem_singleton_self _))
          unfold Bn at hb0' hbr'
          have hset : (acc0 ++ [V.ref b0]).set acc0.length (.ref p) = acc0 ++ [.ref p] := by
            rw [List.set_append_right _ _ (Nat.le_refl _), Nat.sub_self]
            rfl
          rw [hset] at h5
          refine ⟨_, _, del H4 f, acc0 ++ [.ref p], qs0 ++ [(q0.1, if q0.2 > r.2 then q0.2 else r.2)], rfl, ex_del (h1.trans (h2.trans (e3.trans e4))) del_same, del_but b5, del_same, h5, ?_, ?_, ?_, ?_, ?_⟩
          · exact prd_app (prd_mono (fun _ _ z => (z.ex e4).del hf4) hq0) (.cons ⟨p, rfl, sqT_del (st_of hp4) hf4⟩ .nil)
          · rw [hqs, List.length_append] at hqi
            rw [List.length_append]
            simp only [List.length_cons, List.length_nil] at hqi ⊢
            omega
          · intro x
            have h8 := hcov x
            rw [hqs, cov_app, cov_one] at h8
            rw [take_snoc hr', cov_app, cov_app, cov_one, cov_one, ← h8]
            dsimp only
            by_cases h9 : Cov qs0 x
            · simp only [h9, true_or]
            · simp only [h9, false_or]
              split <;> omega
          · intro q' hq'
            rcases List.mem_append.mp hq' with hq' | hq'
            · exact hbn q' (by rw [hqs]; exact List.mem_append_left _ hq')
            · rw [List.mem_singleton.mp hq']
              unfold Bn
              dsimp only
              split <;> omega
          · intro q' hq'
            rw [List.getLast?_append, List.getLast?_singleton] at hq'
            cases hq'
            refine ⟨pl, ?_, el⟩
            rw [take_snoc hr']
            exact List.mem_append_left _ hpl
        · rw [decide_eq_false hc]
          walk_at "k"
          refine ⟨ty_L hf3, ?_⟩
          walk_at "k"
          refine g_newT (sz (of_decide_eq_true rfl)) fun p H4 np e4 hp4 b4 => ?_
          have hf4 := e4 _ _ hf3
          walk_at "k"
          refine g_app hf4 (szl (by have := prd_len hq; omega)) fun H5 b5 h5 => ?_
          walk_at "k"
          refine ⟨_, _, del H4 f, acc ++ [.ref p], qs ++ [r], rfl, ex_del (h1.trans (h2.trans (e3.trans e4))) del_same, del_but b5, del_same, h5, ?_, ?_, ?_, ?_, ?_⟩
          · exact prd_app (prd_mono (fun _ _ z => (z.ex e4).del hf4) hq3) (.cons ⟨p, rfl, sqT_del (st_of hp4) hf4⟩ .nil)
          · rw [List.length_append]
            simp only [List.length_cons, List.length_nil]
            omega
          · intro x
            rw [take_snoc hr', cov_app, cov_app, hcov x]
          · intro q' hq'
            rcases List.mem_append.mp hq' with hq' | hq'
            · exact hbn q' hq'
            · rw [List.mem_singleton.mp hq']
              exact hbr'
          · intro q' hq'
            rw [List.getLast?_append, List.getLast?_singleton] at hq'
            cases hq'
            exact ⟨r, by rw [take_snoc hr']; exact List.mem_append_right _ (List.mem_singleton_self _), rfl⟩
    · rintro σ H ⟨o2, o3, G, acc, qs, rfl, h1, h2, nf', hfH, hq, hqi, hcov, hbn, hlast⟩
      walk_at "k"
      have hlz := prd_len hzd
      rw [hlz, List.take_length] at hcov
      have hfin : Ex H0 H := fun b o z => by
        have z2 := e2 _ _ (e1 _ _ z)
        refine h2 _ _ (h1 _ _ ?_)
        rw [del_ne (fun y => by rw [y, nf] at z; cases z)]
        exact z2
      refine q H f acc qs hfin nf hfH (prd_mono (fun _ _ z => z.ex h2) hq) ?_ (fun x => ?_) hbn
      · have := hperm.length_eq
        omega
      · rw [hcov x]
        constructor
        · rintro ⟨p, hp', h⟩
          exact ⟨p, hperm.mem_iff.mp hp', h⟩
        · rintro ⟨p, hp', h⟩
          exact ⟨p, hperm.mem_iff.mpr hp', h⟩
end
end Tk
namespace Tk
open PySem PySem.Spec PyProof.Rows L2
open Evl (Ex ex_l ex_t ex_rd sq_of st_of fresh_back)
/-! ### dict comprehensions over a range -/
def DcN (D : Addr) (Pv : Nat → List (Key × V) → Hp → Prop) (j : Nat) (H : Hp) : Prop := ∃ kvs, kvs.length ≤ j ∧ H D = some (.dK kvs) ∧ Pv j kvs H
def DcT (D : Addr) (Pv : Nat → List (Key × V) → Hp → Prop) (j : Nat) (y z : V) (H5 : Hp) : Prop := ∃ kvs k, y = kV k ∧ H5 D = some (.dK kvs) ∧ kvs.length < sizeLine ∧ DcN D Pv j (upd H5 D (.dK (putK kvs k z)))
def DcS (g : TG) (tt : TT) (tk tv : TE) (vs : List Nat) (σ : L2.St) (D : Addr) (Pv : Nat → List (Key × V) → Hp → Prop) (i : Nat) (x : V) (H' : Hp) : Prop :=
  g x (wipe σ vs) H' fun σ2 H2 => wipe σ2 vs = wipe σ vs ∧ tt σ2 H2 fun b H3 => if b = true then tk σ2 H3 fun y H4 => tv σ2 H4 fun z H5 => DcT D Pv (i + 1) y z H5 else DcN D Pv (i + 1) H3
theorem dcT_of {D : Addr} {Pv : Nat → List (Key × V) → Hp → Prop} {i : Nat} {kvs : List (Key × V)} {n : Int} {z : V} {H5 : Hp} (hl : kvs.length ≤ i) (hi : i < 100000) (hD : H5 D = some (.dK kvs)) (h : ∀ H6, But D H5 H6 → H6 D = some (.dK (putK kvs (.inl n) z)) → Pv (i + 1) (putK kvs (.inl n) z) H6) : DcT D Pv (i + 1) (.int n) z H5 :=
  ⟨kvs, .inl n, rfl, hD, szl (by omega), putK kvs (.inl n) z, by have := length_putK kvs (.inl n) z; omega, upd_same, h _ (fun _ hb => upd_ne hb) upd_same⟩
theorem g_dcs {g : TG} {tt : TT} {tk tv : TE} {vs : List Nat} {σ : L2.St} {D : Addr} {Pv : Nat → List (Key × V) → Hp → Prop} {i : Nat} {x : V} {H' : Hp} (h : g x (wipe σ vs) H' fun σ2 H2 => wipe σ2 vs = wipe σ vs ∧ tt σ2 H2 fun b H3 => if b = true then tk σ2 H3 fun y H4 => tv σ2 H4 fun z H5 => DcT D Pv (i + 1) y z H5 else DcN D Pv (i + 1) H3) : DcS g tt tk tv vs σ D Pv i x H' := h
section
variable {g : TG} {tt : TT} {tk tv : TE} {ta : TA} {vs : List Nat} {σ : L2.St} {H : Hp} {Q : VK}
theorem g_dcR2 {lo hi : Int} (h : ∀ R : List V → Hp → Prop, R [.int lo, .int hi] H → ta σ H R) (h1 : -(2 ^ 62) ≤ lo ∧ lo < 2 ^ 62 ∧ -(2 ^ 62) ≤ hi ∧ hi < 2 ^ 62)
    (k : ∀ D, H D = none → ∃ Pv : Nat → List (Key × V) → Hp → Prop, (∀ H', But D H H' → Ex H H' → H' D = some (.dK []) → Pv 0 [] H') ∧
      (∀ (i : Nat) kvs H, lo + (i : Int) < hi → kvs.length ≤ i → H D = some (.dK kvs) → Pv i kvs H → DcS g tt tk tv vs σ D Pv i (.int (lo + i)) H) ∧ ∀ kvs H, kvs.length ≤ (hi - lo).toNat → H D = some (.dK kvs) → Pv (hi - lo).toNat kvs H → Q (.ref D) H) : tDc (iRng2 ta) g tt tk tv vs σ H Q :=
  h _ ⟨lo, hi, rfl, h1, fun D hD => by
    obtain ⟨Pv, p0, ps, pd⟩ := k D hD
    have e0 : Ex H (upd H D (.dK [])) := Evl.Ex.new hD
    refine ⟨fun i m H => m = (hi - lo).toNat - i ∧ i ≤ (hi - lo).toNat ∧ DcN D Pv i H, ⟨_, rfl, Nat.zero_le _, [], Nat.le_refl _, upd_same, p0 _ (fun _ hb => upd_ne hb) e0 upd_same⟩, ?_⟩
    rintro i m H2 ⟨rfl, hi2, kvs, hl, hk, p⟩
    by_cases hlt : i < (hi - lo).toNat
    · refine .inr ⟨hlt, DcN D Pv (i + 1), fun H' p' => ⟨(hi - lo).toNat - (i + 1), by omega, rfl, hlt, p'⟩, fun x H' y => ?_⟩
      obtain ⟨rfl, rfl⟩ := y
      exact ps i kvs H' (by omega) hl hk p
    · have e : i = (hi - lo).toNat := by omega
      subst e
      exact .inl ⟨Nat.le_refl _, pd kvs H2 hl hk p⟩⟩
end
/-! ### keys of dicts -/
def Keys (kvs : List (Key × V)) (ks : List Int) : Prop := kvs.map (·.1) = ks.map Sum.inl ∧ ks.Nodup
theorem keys_put {kvs : List (Key × V)} {ks : List Int} (h : Keys kvs ks) (n : Int) (z : V) : ∃ ks', Keys (putK kvs (.inl n) z) ks' ∧ ∀ k, k ∈ ks' ↔ k ∈ ks ∨ k = n := by
  obtain ⟨h1, h2⟩ := h
  have any_iff : (kvs.any fun kv => decide (kv.1 = Sum.inl n)) = decide (n ∈ ks) := by
    clear h2
    induction kvs generalizing ks with
    | nil =>
      cases ks with
      | nil => simp
      | cons => simp at h1
    | cons p kvs ih =>
      cases ks with
      | nil => simp at h1
      | cons k ks =>
        simp only [List.map_cons, List.cons.injEq] at h1
        rw [List.any_cons, ih h1.2, h1.1]
        by_cases e : k = n
        · subst e
          simp
        · have e2 : ¬ n = k := fun z => e z.symm
          simp [e, e2, Sum.inl.injEq]
  unfold putK
  rw [any_iff]
  by_cases hm : n ∈ ks
  · rw [if_pos (decide_eq_true hm)]
    refine ⟨ks, ⟨?_, h2⟩, fun k => ⟨.inl, fun z => z.elim id fun e => by rw [e]; exact hm⟩⟩
    rw [List.map_map, ← h1]
    refine List.map_congr_left fun p _ => ?_
    show (if p.1 = Sum.inl n then (p.1, z) else p).1 = p.1
    split <;> rfl
  · rw [if_neg (by rw [decide_eq_false hm]; decide)]
    refine ⟨ks ++ [n], ⟨by rw [List.map_append, List.map_append, h1]; rfl, ?_⟩, fun k => by rw [List.mem_append, List.mem_singleton]⟩
    exact List.nodup_append.mpr ⟨h2, List.pairwise_singleton _ _, fun a ha b hb e => by
      rw [List.mem_singleton.mp hb] at e
      exact hm (e ▸ ha)⟩
theorem keys_merge : ∀ {more kvs : List (Key × V)} {ms ks : List Int}, Keys kvs ks → more.map (·.1) = ms.map Sum.inl → ∃ ks', Keys (mergeK kvs more) ks' ∧ ∀ k, k ∈ ks' ↔ k ∈ ks ∨ k ∈ ms
  | [], kvs, ms, ks, h, hm => by
    have : ms = [] := by
      cases ms with
      | nil => rfl
      | cons => simp at hm
    subst this
    exact ⟨ks, h, fun k => by simp⟩
  | p :: more, kvs, ms, ks, h, hm => by
    cases ms with
    | nil => simp at hm
    | cons m ms =>
      simp only [List.map_cons, List.cons.injEq] at hm
      obtain ⟨k1, h1, e1⟩ := keys_put h m p.2
      obtain ⟨k2, h2, e2⟩ := keys_merge (more := more) h1 hm.2
      refine ⟨k2, ?_, fun k => ?_⟩
      · show Keys (mergeK (putK kvs p.1 p.2) more) k2
        rw [hm.1]
        exact h2
      · rw [e2, e1, List.mem_cons]
        constructor
        · rintro ((h | h) | h)
          · exact .inl h
          · exact .inr (.inl h)
          · exact .inr (.inr h)
        · rintro (h | h | h)
          · exact .inl (.inl h)
          · exact .inl (.inr h)
          · exact .inr h
theorem nodup_sub {α : Type} [BEq α] [LawfulBEq α] : ∀ {a b : List α}, a.Nodup → (∀ x ∈ a, x ∈ b) → a.length ≤ b.length
  | [], b, _, _ => Nat.zero_le _
  | x :: a, b, h, hs => by
    have hn := List.nodup_cons.mp h
    have hx := hs x List.mem_cons_self
    have ih := nodup_sub (b := b.erase x) hn.2 fun y hy => (List.mem_erase_of_ne (fun e : y = x => hn.1 (by rw [← e]; exact hy))).mpr (hs y (List.mem_cons_of_mem _ hy))
    rw [List.length_erase_of_mem hx] at ih
    have := List.length_pos_of_mem hx
    rw [List.length_cons]
    omega
/-- different ints within lo .. lo + n - 1 -/
theorem nodup_iv {ks : List Int} (h : ks.Nodup) {lo : Int} {n : Nat} (hb : ∀ k ∈ ks, lo ≤ k ∧ k < lo + n) : ks.length ≤ n := by
  have h1 : (ks.map fun k => (k - lo).toNat).Nodup := by
    refine List.pairwise_map.mpr (List.Pairwise.imp_of_mem ?_ h)
    intro a b ha hb' hne e
    have := hb a ha
    have := hb b hb'
    exact hne (by omega)
  have h2 : ∀ k ∈ (ks.map fun k => (k - lo).toNat), k ∈ List.range n := fun k hk => by
    obtain ⟨z, hz, rfl⟩ := List.mem_map.mp hk
    have := hb z hz
    exact List.mem_range.mpr (by omega)
  have h3 := nodup_sub h1 h2
  rw [List.length_map, List.length_range] at h3
  exact h3
theorem g_dnew {σ : L2.St} {H : Hp} {Q : VK} (h : ∀ p H', H p = none → Ex H H' → H' p = some (.dK []) → But p H H' → Q (.ref p) H') : tDNewK σ H Q := fun p np => h p _ np (Evl.Ex.new np) upd_same fun _ hb => upd_ne hb
theorem g_dc {wi : TI} {g : TG} {tt : TT} {tk tv : TE} {vs : List Nat} {σ : L2.St} {H : Hp} {Q : VK} (h : tDc wi g tt tk tv vs σ H Q) : tDc wi g tt tk tv vs σ H Q := h
def rSortD : List V → Hp → VK → Prop := fun xs H Q => ∃ (a : Addr) (kvs : List (Key × V)) (ks : List Int), xs = [.ref a] ∧ Rd H a (.dK kvs) ∧ kvs.map (·.1) = ks.map Sum.inl ∧ ks.length < 64 ∧
  ∀ (ys : List Int) (p : Addr), ys.Perm ks → ys.Pairwise (· ≤ ·) → H p = none → Q (.ref p) (upd H p (.lst (ys.map V.int)))
theorem cr_sortD {X : Cx} (hc : X.calm = true) : CallR X (.builtin "sorted") rSortD := call_sortedDI hc
theorem g_sortD {a : Addr} {kvs : List (Key × V)} {ks : List Int} {H : Hp} {Q : VK} (hd : H a = some (.dK kvs)) (hk : Keys kvs ks) (h64 : ks.length < 64) (h : ∀ p H' (ys : List Int), H p = none → Ex H H' → H' p = some (.lst (ys.map V.int)) → ys.Perm ks → ys.Pairwise (· ≤ ·) → Q (.ref p) H') : rSortD [V.ref a] H Q :=
  ⟨a, kvs, ks, rfl, .inl hd, hk.1, h64, fun ys p hp hs np => h p _ ys np (Evl.Ex.new np) upd_same hp hs⟩
theorem ty_D {K : PySem.W.Frag} {H : Hp} {p : Addr} {kvs : List (Key × V)} (h : H p = some (.dK kvs)) : tyV K "dict" (.ref p) H := .inr (.inr (.inl ⟨rfl, .inl ⟨kvs, h⟩⟩))
end Tk
namespace Tk
open PySem PySem.Spec PyProof.Rows L2
open Evl (Ex ex_l ex_t ex_rd sq_of st_of fresh_back)
local macro_rules | `(tactic| walk_at "g") => `(tactic| (repeat (first
  | (with_reducible refine g_seq ?_) | (with_reducible refine g_asg ?_) | (with_reducible refine g_name ?_) | (with_reducible refine g_sub ?_)
  | ((with_reducible refine' g_var ?e ?_); (case e => exact rfl)) | (with_reducible refine g_c ?_) | (with_reducible refine g_op ?_) | (with_reducible refine g_un ?_) | (with_reducible refine g_U ?_)
  | (with_reducible refine g_I0 ?_) | (with_reducible refine g_eqI ?_) | (with_reducible refine g_neI ?_) | (with_reducible refine g_eqS ?_) | (with_reducible refine g_neS ?_) | (with_reducible refine g_eqB ?_) | (with_reducible refine g_neB ?_)
  | (with_reducible refine g_test ?_) | (with_reducible refine g_tB ?_) | (with_reducible refine g_bl ?_) | (with_reducible refine g_and ?_) | (with_reducible refine g_or ?_) | (with_reducible refine g_not ?_)
  | (with_reducible refine g_andV ?_) | (with_reducible refine g_orV ?_) | (with_reducible refine g_notV ?_) | (with_reducible refine g_ifE ?_) | (with_reducible refine g_ifS ?_)
  | (with_reducible refine g_next ?_) | (with_reducible refine g_ret ?_) | (with_reducible refine g_drop ?_) | (with_reducible refine g_nil ?_) | (with_reducible refine g_cons ?_) | (with_reducible refine g_call ?_)
  | (with_reducible refine g_cb ?_) | (with_reducible refine g_bm ?_) | (with_reducible refine g_lst ?_) | (with_reducible refine g_tup ?_) | (with_reducible refine iteT ?_) | (with_reducible refine iteF ?_) | (with_reducible refine g_nt ?_) | (with_reducible refine g_nf ?_)
  | (with_reducible refine g_par ?_) | (with_reducible refine g_par3 ?_) | (with_reducible refine g_two ?_) | (with_reducible refine g_three ?_) | (with_reducible refine g_ckw ?_) | (with_reducible refine g_yes ?_) | (with_reducible refine g_chain ?_) | (with_reducible refine g_gnil ?_) | (with_reducible refine g_gcons ?_) | (with_reducible refine g_fld ?_) | (with_reducible refine g_sfld ?_) | (with_reducible refine g_isN ?_) | (with_reducible refine g_nint ?_) | (with_reducible refine g_nintB ?_) | (with_reducible refine g_max ?_) | (with_reducible refine g_min ?_))))
local macro_rules | `(tactic| walk_at "k") => `(tactic| (repeat (first
  | (with_reducible refine g_seq ?_) | (with_reducible refine g_asg ?_) | (with_reducible refine g_name ?_) | (with_reducible refine g_sub ?_)
  | ((with_reducible refine' g_var ?e ?_); (case e => exact rfl)) | (with_reducible refine g_c ?_) | (with_reducible refine g_op ?_) | (with_reducible refine g_un ?_) | (with_reducible refine g_U ?_)
  | (with_reducible refine g_I0 ?_) | (with_reducible refine g_eqI ?_) | (with_reducible refine g_neI ?_) | (with_reducible refine g_eqS ?_) | (with_reducible refine g_neS ?_) | (with_reducible refine g_eqB ?_) | (with_reducible refine g_neB ?_)
  | (with_reducible refine g_test ?_) | (with_reducible refine g_tB ?_) | (with_reducible refine g_bl ?_) | (with_reducible refine g_and ?_) | (with_reducible refine g_or ?_) | (with_reducible refine g_not ?_)
  | (with_reducible refine g_andV ?_) | (with_reducible refine g_orV ?_) | (with_reducible refine g_notV ?_) | (with_reducible refine g_ifE ?_)
  | (with_reducible refine g_next ?_) | (with_reducible refine g_ret ?_) | (with_reducible refine g_drop ?_) | (with_reducible refine g_nil ?_) | (with_reducible refine g_cons ?_) | (with_reducible refine g_call ?_)
  | (with_reducible refine g_cb ?_) | (with_reducible refine g_bm ?_) | (with_reducible refine g_lst ?_) | (with_reducible refine g_tup ?_) | (with_reducible refine iteT ?_) | (with_reducible refine iteF ?_) | (with_reducible refine g_nt ?_) | (with_reducible refine g_nf ?_)
  | (with_reducible refine g_par ?_) | (with_reducible refine g_par3 ?_) | (with_reducible refine g_two ?_) | (with_reducible refine g_three ?_) | (with_reducible refine g_ckw ?_) | (with_reducible refine g_yes ?_) | (with_reducible refine g_chain ?_) | (with_reducible refine g_gnil ?_) | (with_reducible refine g_gcons ?_) | (with_reducible refine g_fld ?_) | (with_reducible refine g_sfld ?_) | (with_reducible refine g_isN ?_) | (with_reducible refine g_nint ?_) | (with_reducible refine g_nintB ?_) | (with_reducible refine g_max ?_) | (with_reducible refine g_min ?_))))
/-- a rule of R that leaves w lets n be taken from h -/
def Can (R : List Rl) (h : Int) (w : Str) (n : Int) : Prop := ∃ r ∈ R, r.lf = w ∧ h % r.mo = r.re ∧ r.lo ≤ n ∧ n ≤ most r h
theorem can_app {A B : List Rl} {h n : Int} {w : Str} : Can (A ++ B) h w n ↔ Can A h w n ∨ Can B h w n := by
  constructor
  · rintro ⟨r, hr, q⟩
    rcases List.mem_append.mp hr with hr | hr
    · exact .inl ⟨r, hr, q⟩
    · exact .inr ⟨r, hr, q⟩
  · rintro (⟨r, hr, q⟩ | ⟨r, hr, q⟩)
    · exact ⟨r, List.mem_append_left _ hr, q⟩
    · exact ⟨r, List.mem_append_right _ hr, q⟩
theorem can_one {r : Rl} {h n : Int} {w : Str} : Can [r] h w n ↔ r.lf = w ∧ h % r.mo = r.re ∧ r.lo ≤ n ∧ n ≤ most r h := by
  constructor
  · rintro ⟨s, hs, q⟩
    rw [List.mem_singleton.mp hs] at q
    exact q
  · exact fun q => ⟨r, List.mem_singleton_self _, q⟩
theorem can_nil {h n : Int} {w : Str} : ¬ Can [] h w n := fun ⟨r, hr, _⟩ => absurd hr (by simp)
theorem most_le (r : Rl) (h : Int) : most r h ≤ h := by
  unfold most
  cases r.hi with
  | none => exact Int.le_refl _
  | some k =>
    show (if h < k then h else k) ≤ h
    split <;> omega
theorem most_12 {r : Rl} (g : Good r) (ht : r.lf = "two") (h : Int) : most r h ≤ 12 := by
  unfold most
  cases e : r.hi with
  | none => exact absurd ht (g.hiN e).1
  | some k =>
    have := (g.hiS k e).2
    show (if h < k then h else k) ≤ 12
    split <;> omega
theorem can_step {R : List Rl} {r : Rl} {i : Nat} {h n : Int} {w : Str} (hr : R[i]? = some r) : Can (R.take (i + 1)) h w n ↔ Can (R.take i) h w n ∨ (r.lf = w ∧ h % r.mo = r.re ∧ r.lo ≤ n ∧ n ≤ most r h) := by
  rw [take_snoc hr, can_app, can_one]
theorem can_skip {R : List Rl} {r : Rl} {i : Nat} {h n : Int} {w : Str} (hr : R[i]? = some r) (hn : ¬ (r.lf = w ∧ h % r.mo = r.re ∧ r.lo ≤ n ∧ n ≤ most r h)) : Can (R.take (i + 1)) h w n ↔ Can (R.take i) h w n := by
  rw [can_step hr]
  exact ⟨fun z => z.elim id fun q => absurd q hn, .inl⟩
theorem s_no1 : ("one" : Str) ≠ "none" := by decide +kernel
theorem s_no2 : ("two" : Str) ≠ "none" := by decide +kernel
theorem s_no3 : ("two" : Str) ≠ "one" := by decide +kernel
theorem none_ex {H H' : Hp} {p : Addr} (e : Ex H H') (n : H' p = none) : H p = none := by
  cases z : H p with
  | none => rfl
  | some o => rw [e p o z] at n; cases n
/-- what spans_in tells -/
structure Told (R : List Rl) (h : Int) (gone : Bool) (qs : List (Int × Int)) (us : List Int) : Prop where
  gone : gone = true ↔ Can R h "none" h
  one : ∀ o, Cov qs o ↔ 1 ≤ o ∧ Can R h "one" (h - o)
  two : ∀ b, b ∈ us ↔ 2 ≤ b ∧ Can R h "two" (h - b)
  bn : ∀ q ∈ qs, Bn h q
  len : qs.length ≤ 6
  len2 : us.length ≤ 13
def spSpans (K : PySem.W.Frag) : Sp := fun vs H Q _ => ∃ (v : V) (R : List Rl) (h : Int), vs = [v, .int h] ∧ BookAt K H v R ∧ Goods R ∧ 1 ≤ h ∧ h ≤ 10 ^ 18 ∧
  ∀ H' t l m ys gone qs us, Ex H H' → SqT K H' t [.bl gone, .ref l, .ref m] → SqL K H' l ys → Paired (PairT K H') ys qs → SqL K H' m (us.map V.int) → Told R h gone qs us → Q (.ref t) H'
section
variable {P : Program} {w : World} {K : PySem.W.Frag} {mg : Str → Option Value} {base : Heap}
theorem sc_spans_in : FnScope ["book", "heap", "is_gone", "spans", "sums", "rule", "low", "high", "left", "rest", "modulus", "most", "number"] ["book", "heap"] (defScope st_spans_in) := ⟨rfl, rfl, rfl, by decide +kernel, rfl, by decide +kernel, by decide +kernel⟩
theorem ok_spans_in (T : Txt K mg) : Kept P w K mg base CX0 2 "spans_in" ["book", "heap"] (spSpans K) := by
  have G_taken_most := ok_taken_most (P := P) (w := w) (base := base) T
  have G_joined := ok_joined (P := P) (w := w) (base := base) T
  refine kept0 T.d_spans_in sc_spans_in (fun vs H Q E h => ?_) (fun cdv A outer s H0 vs Q E hr h => ?_)
  · obtain ⟨v, R, h, rfl, _⟩ := h
    rfl
  · obtain ⟨v, R, h, rfl, hB, g, h1, h18, q⟩ := h
    refine ⟨_, (pss_cons (ps_par3 (i := 2) (j := 3) (l := 4) rfl sc_spans_in.nd rfl rfl rfl (by decide) (by decide) (by decide) rfl rfl rfl (pa_cons pe_bl (pa_cons (pe_lst pa_nil) (pa_cons pe_dnewK pa_nil))) rfl)
      (pss_cons (ps_for PassesOwn.never rfl (pi_q (pe_fld (pv 0) rfl)) (pg_name (i := 5) sc_spans_in.nd rfl (Or.inl rfl)) (pss_cons (ps_asg (pv 5) (pg_tup rfl (pgs_cons (pg_name (i := 6) sc_spans_in.nd rfl (Or.inl rfl)) (pgs_cons (pg_name (i := 7) sc_spans_in.nd rfl (Or.inl rfl)) (pgs_cons (pg_name (i := 8) sc_spans_in.nd rfl (Or.inl rfl)) (pgs_cons (pg_name (i := 9) sc_spans_in.nd rfl (Or.inl rfl)) (pgs_cons (pg_name (i := 10) sc_spans_in.nd rfl (Or.inl rfl)) pgs_nil)))))))
      (pss_cons (ps_set (i := 11) sc_spans_in.nd rfl (Or.inl rfl) (pe_c G_taken_most (hr.mono (by decide)) pass0 (pa_cons (pv 5) (pa_cons (pv 1) pa_nil))))
      (pss_one (ps_if (PW.pt (pw_and (pt_cmpR op_eq (pe_op op_mod (pv 1) (pv 10)) (pv 9) (nomark _)) (pw_and1 (pt_cmpR op_le (pv 6) (pv 11) (nomark _))))) (pss_one (ps_if (pt_cmpR op_eq (pv 8) pe_str (nomark _)) (pss_one (ps_set (i := 2) sc_spans_in.nd rfl (Or.inl rfl) (pe_or (pv 2) (pe_one (pe_cmpR op_eq (pv 11) (pv 1) (nomark _)))))) (pss_one (ps_if (PW.pt (pw_and (pt_cmpR op_eq (pv 8) pe_str (nomark _)) (pw_and1 (pt_cmpR op_lt (pv 6) (pv 1) (nomark _))))) (pss_one (ps_expr (pe_bmK K PySem.F.plainAttrs_list PySem.F.slot_list_append PySem.F.type_list_append mt_append (pv 3) (pa_cons (pe_tup (pa_cons (pe_callB (cMax rfl) (by rfl) T.f_max (by decide +kernel) (pa_cons pe_int (pa_cons (pe_op op_sub (pv 1) (pv 11)) pa_nil))) (pa_cons (pe_op op_sub (pv 1) (pv 6)) pa_nil))) pa_nil)))) (pss_one (ps_if (pt_cmpR op_eq (pv 8) pe_str (nomark _)) (pss_one (ps_expr (pe_bmK K PySem.F.plainAttrs_dict PySem.F.slot_dict_update PySem.F.type_dict_update mt_updD (pv 4) (pa_cons (pe_dc rfl (own := [("number", 12)]) sc_spans_in.nd (pi_range2 (by rfl) T.f_range (pa_cons (pv 6) (pa_cons (pe_op op_add (pv 11) pe_int) pa_nil))) (blkOk_by (own := [("number", 12)]) (N := ["book", "heap", "is_gone", "spans", "sums", "rule", "low", "high", "left", "rest", "modulus", "most", "number"]) (sc := defScope st_spans_in) (by decide +kernel)) (fun _ _ _ _ _ => (pg_name (i := 12) sc_spans_in.nd rfl (Or.inl rfl))) (fun _ _ _ _ _ => (pts_one (pt_cmpR op_ge (pe_op op_sub (pv 1) (pv 12)) pe_int (nomark _)))) (fun _ _ _ _ _ => (pe_op op_sub (pv 1) (pv 12))) (fun _ _ _ _ _ => pe_bl)) pa_nil)))) pss_nil)))))) pss_nil)))))
      (pss_one (ps_ret (pe_tup (pa_cons (pv 2) (pa_cons (pe_c G_joined (hr.mono (by decide)) pass0 (pa_cons (pv 3) pa_nil)) (pa_cons (pe_callB (cr_sortD rfl) (by rfl) T.f_sorted (by decide +kernel) (pa_cons (pv 4) pa_nil)) pa_nil)))))))), ?_⟩
    walk_at "k"
    refine g_new (sz (by decide)) fun l H1 nl e1 hl b1 => ?_
    walk_at "k"
    refine g_dnew fun m H2 nm e2 hm b2 => ?_
    walk_at "k"
    obtain ⟨b, dx, t, fs, ys, rfl, hb, hfl, ht, hys⟩ := hB
    have e02 : Ex H0 H2 := e1.trans e2
    have hml : m ≠ l := fun z => by rw [z, hl] at nm; cases nm
    refine g_forI ?_
    walk_at "k"
    refine g_fldV (e02 _ _ hb) T.bookC T.bookN1 hfl ?_
    refine over_for (G := H0) (xs := ys) (.inr ht) e02 (fun i σ H => ∃ (o5 o6 o7 o8 o9 o10 o11 o12 : Option V) (gone : Bool) (G : Hp) (acc : List V) (ps : List (Int × Int)) (kvs : List (Key × V)) (ks : List Int),
      σ = [some (.ref b), some (.int h), some (.bl gone), some (.ref l), some (.ref m), o5, o6, o7, o8, o9, o10, o11, o12] ∧ Ex H0 G ∧ Ex G H ∧ G l = none ∧ G m = none ∧ H l = some (.lst acc) ∧ H m = some (.dK kvs) ∧ Paired (PairH G) acc ps ∧ ps.length ≤ i ∧ Keys kvs ks ∧
      (gone = true ↔ Can (R.take i) h "none" h) ∧ (∀ o, Cov ps o ↔ 1 ≤ o ∧ Can (R.take i) h "one" (h - o)) ∧ (∀ z, z ∈ ks ↔ 2 ≤ z ∧ Can (R.take i) h "two" (h - z)) ∧ ∀ p ∈ ps, Bn h p) ?_ ?_ ?_ ?_
    · refine ⟨none, none, none, none, none, none, none, none, false, H0, [], [], [], [], rfl, fun _ _ z => z, e02, nl, none_ex e1 nm, e2 _ _ hl, hm, .nil, Nat.le_refl _, ⟨rfl, List.nodup_nil⟩, ?_, fun o => ?_, fun z => ?_, fun p hp => absurd hp (by simp)⟩
      · rw [List.take_zero]
        exact ⟨fun z => (by cases z), fun z => absurd z can_nil⟩
      · rw [List.take_zero]
        exact ⟨fun ⟨p, hp, _⟩ => absurd hp (by simp), fun z => absurd z.2 can_nil⟩
      · rw [List.take_zero]
        exact ⟨fun hz => absurd hz (by simp), fun z => absurd z.2 can_nil⟩
    · rintro i σ H ⟨_, _, _, _, _, _, _, _, _, G, _, _, _, _, _, h1, h2, _⟩
      exact h1.trans h2
    · rintro i x σ H hx ⟨o5, o6, o7, o8, o9, o10, o11, o12, gone, G, acc, ps, kvs, ks, rfl, g1, g2, gl, gm, hlH, hmH, hps, hpi, hks, q1, q2, q3, q4⟩
      obtain ⟨r, hr', b', rfl, hrt⟩ := prd_get hys hx
      have gr := g.good r (List.mem_of_getElem? hr')
      have hi6 : i < 6 := by
        have := (List.getElem?_eq_some_iff.mp hr').1
        have := g.len
        omega
      have hmo := gr.mo1
      have hlo0 := gr.lo0
      have hlo12 := gr.lo12
      have hml' := most_le r h
      have hrH := ex_t (g1.trans g2) hrt
      walk_at "k"
      refine g_gtup hrH rfl ?_
      walk_at "k"
      refine ⟨_, r, h, rfl, ⟨b', rfl, hrH⟩, ?_⟩
      walk_at "k"
      with_reducible refine g_ifS ?_
      walk_at "k"
      refine g_I (by omega) ?_
      walk_at "k"
      by_cases c1 : h % r.mo = r.re
      · rw [decide_eq_true c1]
        walk_at "k"
        by_cases c2 : r.lo ≤ most r h
        · rw [decide_eq_true c2]
          walk_at "k"
          with_reducible refine g_ifS ?_
          walk_at "k"
          rcases gr.lf3 with hlf | hlf | hlf
          · -- none
            rw [decide_eq_true hlf]
            walk_at "k"
            have fin : ∀ {gone' : Bool}, (gone' = true ↔ gone = true ∨ most r h = h) → (gone' = true ↔ Can (R.take (i + 1)) h "none" h) := fun {gone'} hg => by
              rw [hg, can_step hr', q1]
              constructor
              · rintro (z | z)
                · exact .inl z
                · exact .inr ⟨hlf, c1, by omega, by omega⟩
              · rintro (z | ⟨_, _, _, z⟩)
                · exact .inl z
                · exact .inr (by omega)
            have fin2 : ∀ {w n}, w ≠ ("none" : Str) → (Can (R.take (i + 1)) h w n ↔ Can (R.take i) h w n) := fun {w n} hw => can_skip hr' fun z => hw (by rw [← z.1, hlf])
            cases gone with
            | true =>
              walk_at "k"
              refine ⟨_, _, _, _, _, _, _, _, _, G, acc, ps, kvs, ks, rfl, g1, g2, gl, gm, hlH, hmH, hps, by omega, hks, fin ?_, fun o => ?_, fun z => ?_, q4⟩
              · simp
              · rw [fin2 s_no1]
                exact q2 o
              · rw [fin2 s_no2]
                exact q3 z
            | false =>
              walk_at "k"
              refine ⟨_, _, _, _, _, _, _, _, _, G, acc, ps, kvs, ks, rfl, g1, g2, gl, gm, hlH, hmH, hps, by omega, hks, fin ?_, fun o => ?_, fun z => ?_, q4⟩
              · simp
              · rw [fin2 s_no1]
                exact q2 o
              · rw [fin2 s_no2]
                exact q3 z
          · -- one
            rw [decide_eq_false (by rw [hlf]; exact s_no1)]
            walk_at "k"
            with_reducible refine g_ifS ?_
            walk_at "k"
            rw [decide_eq_true hlf]
            walk_at "k"
            have fin2 : ∀ {w n}, w ≠ ("one" : Str) → (Can (R.take (i + 1)) h w n ↔ Can (R.take i) h w n) := fun {w n} hw => can_skip hr' fun z => hw (by rw [← z.1, hlf])
            by_cases c3 : r.lo < h
            · rw [decide_eq_true c3]
              walk_at "k"
              refine ⟨ty_L hlH, ?_⟩
              walk_at "k"
              refine g_newT (sz (of_decide_eq_true rfl)) fun p H4 np e4 hp4 b4 => ?_
              have hl4 := e4 _ _ hlH
              walk_at "k"
              refine g_app hl4 (szl (by have := prd_len hps; omega)) fun H5 b5 h5 => ?_
              walk_at "k"
              have gp : G p = none := none_ex g2 np
              have hpl : p ≠ l := fun z => by rw [z, hlH] at np; cases np
              have hpm : p ≠ m := fun z => by rw [z, hmH] at np; cases np
              have eG : Ex G (upd G p (.tup [.int (if h - most r h > 1 then h - most r h else 1), .int (h - r.lo)])) := Evl.Ex.new gp
              refine ⟨_, _, _, _, _, _, _, _, gone, upd G p (.tup [.int (if h - most r h > 1 then h - most r h else 1), .int (h - r.lo)]), acc ++ [.ref p], ps ++ [(if h - most r h > 1 then h - most r h else 1, h - r.lo)], kvs, ks, rfl, g1.trans eG, fun a o z => ?_, ?_, ?_, h5, ?_, ?_, ?_, hks, ?_, fun o => ?_, fun z => ?_, fun p' hp' => ?_⟩
              · by_cases ha : a = p
                · rw [ha, upd_same] at z
                  rw [ha, b5 p hpl, hp4]
                  exact z
                · rw [upd_ne ha] at z
                  rw [b5 a (ne_of_none z gl)]
                  exact e4 _ _ (g2 _ _ z)
              · rw [upd_ne (Ne.symm hpl)]
                exact gl
              · rw [upd_ne (Ne.symm hpm)]
                exact gm
              · rw [b5 m hml]
                exact e4 _ _ hmH
              · exact prd_app (prd_mono (fun _ _ z => z.ex eG) hps) (.cons ⟨p, rfl, upd_same⟩ .nil)
              · rw [List.length_append]
                simp only [List.length_cons, List.length_nil]
                omega
              · rw [fin2 (Ne.symm s_no1)]
                exact q1
              · rw [cov_app, cov_one, can_step hr', q2 o]
                dsimp only
                constructor
                · rintro (⟨z1, z2⟩ | ⟨z1, z2⟩)
                  · exact ⟨z1, .inl z2⟩
                  · split at z1
                    · exact ⟨by omega, .inr ⟨hlf, c1, by omega, by omega⟩⟩
                    · exact ⟨by omega, .inr ⟨hlf, c1, by omega, by omega⟩⟩
                · rintro ⟨z1, z2 | ⟨_, _, z3, z4⟩⟩
                  · exact .inl ⟨z1, z2⟩
                  · refine .inr ⟨?_, by omega⟩
                    split <;> omega
              · rw [fin2 s_no3]
                exact q3 z
              · rcases List.mem_append.mp hp' with hp' | hp'
                · exact q4 p' hp'
                · rw [List.mem_singleton.mp hp']
                  unfold Bn
                  dsimp only
                  split <;> omega
            · rw [decide_eq_false c3]
              walk_at "k"
              with_reducible refine g_ifS ?_
              walk_at "k"
              rw [decide_eq_false (by rw [hlf]; exact Ne.symm s_no3)]
              walk_at "k"
              refine ⟨_, _, _, _, _, _, _, _, gone, G, acc, ps, kvs, ks, rfl, g1, g2, gl, gm, hlH, hmH, hps, by omega, hks, ?_, fun o => ?_, fun z => ?_, q4⟩
              · rw [fin2 (Ne.symm s_no1)]
                exact q1
              · rw [can_step hr', q2 o]
                constructor
                · exact fun z => ⟨z.1, .inl z.2⟩
                · rintro ⟨z1, z2 | ⟨_, _, z3, z4⟩⟩
                  · exact ⟨z1, z2⟩
                  · omega
              · rw [fin2 s_no3]
                exact q3 z
          · -- two
            rw [decide_eq_false (by rw [hlf]; exact s_no2)]
            walk_at "k"
            with_reducible refine g_ifS ?_
            walk_at "k"
            rw [decide_eq_false (by rw [hlf]; exact s_no3)]
            walk_at "k"
            with_reducible refine g_ifS ?_
            walk_at "k"
            rw [decide_eq_true hlf]
            walk_at "k"
            have hm12 := most_12 gr hlf h
            refine ⟨ty_D hmH, ?_⟩
            walk_at "k"
            refine g_dcR2 (lo := r.lo) (hi := most r h + 1) (fun R hR => ?_) ⟨by omega, by omega, by omega, by omega⟩ fun D hD => ⟨fun j kv H' => Ex H H' ∧ ∃ ms, Keys kv ms ∧ ∀ z, z ∈ ms ↔ 2 ≤ z ∧ r.lo ≤ h - z ∧ h - z < r.lo + (j : Int), fun H4 b4 e4 _ => ⟨e4, [], ⟨rfl, List.nodup_nil⟩, fun z => ⟨fun hz => absurd hz (by simp), fun hz => by omega⟩⟩, ?_, ?_⟩
            · walk_at "k"
              exact hR
            · rintro j kv H4 hj hkl hD4 ⟨e4, ms, hms, hmem⟩
              refine g_dcs ?_
              walk_at "k"
              refine ⟨rfl, ?_⟩
              walk_at "k"
              by_cases c4 : 2 ≤ h - (r.lo + (j : Int))
              · rw [decide_eq_true c4]
                walk_at "k"
                refine dcT_of hkl (by omega) hD4 fun H5 b5 h5 => ⟨ex_but e4 hD b5, ?_⟩
                obtain ⟨ms', hms', hmem'⟩ := keys_put hms (h - (r.lo + (j : Int))) (.bl true)
                refine ⟨ms', hms', fun z => ?_⟩
                rw [hmem', hmem]
                omega
              · rw [decide_eq_false c4]
                walk_at "k"
                refine ⟨kv, by omega, hD4, e4, ms, hms, fun z => ?_⟩
                rw [hmem]
                omega
            · rintro kv H4 hkl hD4 ⟨e4, ms, hms, hmem⟩
              walk_at "k"
              have hne : m ≠ D := fun z => by rw [← z, hmH] at hD; cases hD
              have hiv : ks.length ≤ 13 := nodup_iv (lo := h - 12) hks.2 fun k hk => by
                obtain ⟨_, r2, hr2, z1, z2, z3, z4⟩ := (q3 k).mp hk
                have g2' := g.good r2 (List.mem_of_mem_take hr2)
                have := most_12 g2' z1 h
                have := g2'.lo0
                omega
              have hkl2 : kvs.length = ks.length := by
                have := congrArg List.length hks.1
                rw [List.length_map, List.length_map] at this
                exact this
              refine g_updD hne (e4 _ _ hmH) hD4 (by omega) fun H5 b5 h5 => ?_
              walk_at "k"
              obtain ⟨ks', hks', hmem'⟩ := keys_merge hks hms.1
              have fin2 : ∀ {w n}, w ≠ ("two" : Str) → (Can (R.take (i + 1)) h w n ↔ Can (R.take i) h w n) := fun {w n} hw => can_skip hr' fun z => hw (by rw [← z.1, hlf])
              refine ⟨_, _, _, _, _, _, _, _, gone, G, acc, ps, _, ks', rfl, g1, ?_, gl, gm, ?_, h5, hps, by omega, hks', ?_, fun o => ?_, fun z => ?_, q4⟩
              · exact ex_but (g2.trans e4) gm b5
              · rw [b5 l (Ne.symm hml)]
                exact e4 _ _ hlH
              · rw [fin2 (Ne.symm s_no2)]
                exact q1
              · rw [fin2 (Ne.symm s_no3)]
                exact q2 o
              · rw [hmem', hmem, q3, can_step hr']
                constructor
                · rintro (⟨z1, z2⟩ | ⟨z1, z2, z3⟩)
                  · exact ⟨z1, .inl z2⟩
                  · exact ⟨z1, .inr ⟨hlf, c1, by omega, by omega⟩⟩
                · rintro ⟨z1, z2 | ⟨_, _, z3, z4⟩⟩
                  · exact .inl ⟨z1, z2⟩
                  · exact .inr ⟨z1, by omega, by omega⟩
        · rw [decide_eq_false c2]
          walk_at "k"
          have hno : ∀ w n, ¬ (r.lf = w ∧ h % r.mo = r.re ∧ r.lo ≤ n ∧ n ≤ most r h) := fun w n z => by omega
          refine ⟨_, _, _, _, _, _, _, _, gone, G, acc, ps, kvs, ks, rfl, g1, g2, gl, gm, hlH, hmH, hps, by omega, hks, ?_, fun o => ?_, fun z => ?_, q4⟩
          · rw [can_skip hr' (hno _ _)]
            exact q1
          · rw [can_skip hr' (hno _ _)]
            exact q2 o
          · rw [can_skip hr' (hno _ _)]
            exact q3 z
      · rw [decide_eq_false c1]
        walk_at "k"
        have hno : ∀ w n, ¬ (r.lf = w ∧ h % r.mo = r.re ∧ r.lo ≤ n ∧ n ≤ most r h) := fun w n z => c1 z.2.1
        refine ⟨_, _, _, _, _, _, _, _, gone, G, acc, ps, kvs, ks, rfl, g1, g2, gl, gm, hlH, hmH, hps, by omega, hks, ?_, fun o => ?_, fun z => ?_, q4⟩
        · rw [can_skip hr' (hno _ _)]
          exact q1
        · rw [can_skip hr' (hno _ _)]
          exact q2 o
        · rw [can_skip hr' (hno _ _)]
          exact q3 z
    · rintro σ H ⟨o5, o6, o7, o8, o9, o10, o11, o12, gone, G, acc, ps, kvs, ks, rfl, g1, g2, gl, gm, hlH, hmH, hps, hpi, hks, q1, q2, q3, q4⟩
      rw [prd_len hys, List.take_length] at q1 q2 q3
      have hps6 : ps.length ≤ 6 := by
        have := prd_len hys
        have := g.len
        omega
      walk_at "k"
      refine ⟨l, acc, ps, h, rfl, sq_of hlH, prd_mono (fun _ _ z => z.ex g2) hps, hps6, q4, fun H3 l3 ys3 qs3 e3 nl3 hl3 hq3 hq6 hcov hbn => ?_⟩
      walk_at "k"
      have hiv : ks.length ≤ 13 := nodup_iv (lo := h - 12) hks.2 fun k hk => by
        obtain ⟨_, r2, hr2, z1, z2, z3, z4⟩ := (q3 k).mp hk
        have g2' := g.good r2 hr2
        have := most_12 g2' z1 h
        have := g2'.lo0
        omega
      refine g_sortD (e3 _ _ hmH) hks (by omega) fun m4 H4 us nm4 e4 hm4 hus hsrt => ?_
      walk_at "k"
      refine g_newT (sz (of_decide_eq_true rfl)) fun t5 H5 nt5 e5 ht5 b5 => ?_
      refine q H5 t5 l3 m4 ys3 gone qs3 us ?_ (st_of ht5) (sq_of (e5 _ _ (e4 _ _ hl3))) (prd_mono (fun _ _ z => (z.ex e4).ex e5) hq3) (sq_of (e5 _ _ hm4)) ⟨q1, fun o => ?_, fun b => ?_, hbn, hq6, ?_⟩
      · exact (g1.trans g2).trans (e3.trans (e4.trans e5))
      · rw [hcov o]
        exact q2 o
      · rw [hus.mem_iff]
        exact q3 b
      · rw [hus.length_eq]
        exact hiv
end
end Tk
namespace Tk
open PySem PySem.Spec PyProof.Rows L2
open Evl (Ex ex_l ex_t ex_rd sq_of st_of fresh_back)
local macro_rules | `(tactic| walk_at "g") => `(tactic| (repeat (first
  | (with_reducible refine g_seq ?_) | (with_reducible refine g_asg ?_) | (with_reducible refine g_name ?_) | (with_reducible refine g_sub ?_)
  | ((with_reducible refine' g_var ?e ?_); (case e => exact rfl)) | (with_reducible refine g_c ?_) | (with_reducible refine g_op ?_) | (with_reducible refine g_un ?_) | (with_reducible refine g_U ?_)
  | (with_reducible refine g_I0 ?_) | (with_reducible refine g_eqI ?_) | (with_reducible refine g_neI ?_) | (with_reducible refine g_eqS ?_) | (with_reducible refine g_neS ?_) | (with_reducible refine g_eqB ?_) | (with_reducible refine g_neB ?_)
  | (with_reducible refine g_test ?_) | (with_reducible refine g_tB ?_) | (with_reducible refine g_bl ?_) | (with_reducible refine g_and ?_) | (with_reducible refine g_or ?_) | (with_reducible refine g_not ?_)
  | (with_reducible refine g_andV ?_) | (with_reducible refine g_orV ?_) | (with_reducible refine g_notV ?_) | (with_reducible refine g_ifE ?_) | (with_reducible refine g_ifS ?_)
  | (with_reducible refine g_next ?_) | (with_reducible refine g_ret ?_) | (with_reducible refine g_drop ?_) | (with_reducible refine g_nil ?_) | (with_reducible refine g_cons ?_) | (with_reducible refine g_call ?_)
  | (with_reducible refine g_cb ?_) | (with_reducible refine g_bm ?_) | (with_reducible refine g_lst ?_) | (with_reducible refine g_tup ?_) | (with_reducible refine iteT ?_) | (with_reducible refine iteF ?_) | (with_reducible refine g_nt ?_) | (with_reducible refine g_nf ?_)
  | (with_reducible refine g_par ?_) | (with_reducible refine g_par3 ?_) | (with_reducible refine g_two ?_) | (with_reducible refine g_three ?_) | (with_reducible refine g_ckw ?_) | (with_reducible refine g_yes ?_) | (with_reducible refine g_chain ?_) | (with_reducible refine g_gnil ?_) | (with_reducible refine g_gcons ?_) | (with_reducible refine g_fld ?_) | (with_reducible refine g_sfld ?_) | (with_reducible refine g_isN ?_) | (with_reducible refine g_nint ?_) | (with_reducible refine g_nintB ?_) | (with_reducible refine g_max ?_) | (with_reducible refine g_min ?_))))
local macro_rules | `(tactic| walk_at "k") => `(tactic| (repeat (first
  | (with_reducible refine g_seq ?_) | (with_reducible refine g_asg ?_) | (with_reducible refine g_name ?_) | (with_reducible refine g_sub ?_)
  | ((with_reducible refine' g_var ?e ?_); (case e => exact rfl)) | (with_reducible refine g_c ?_) | (with_reducible refine g_op ?_) | (with_reducible refine g_un ?_) | (with_reducible refine g_U ?_)
  | (with_reducible refine g_I0 ?_) | (with_reducible refine g_eqI ?_) | (with_reducible refine g_neI ?_) | (with_reducible refine g_eqS ?_) | (with_reducible refine g_neS ?_) | (with_reducible refine g_eqB ?_) | (with_reducible refine g_neB ?_)
  | (with_reducible refine g_test ?_) | (with_reducible refine g_tB ?_) | (with_reducible refine g_bl ?_) | (with_reducible refine g_and ?_) | (with_reducible refine g_or ?_) | (with_reducible refine g_not ?_)
  | (with_reducible refine g_andV ?_) | (with_reducible refine g_orV ?_) | (with_reducible refine g_notV ?_) | (with_reducible refine g_ifE ?_)
  | (with_reducible refine g_next ?_) | (with_reducible refine g_ret ?_) | (with_reducible refine g_drop ?_) | (with_reducible refine g_nil ?_) | (with_reducible refine g_cons ?_) | (with_reducible refine g_call ?_)
  | (with_reducible refine g_cb ?_) | (with_reducible refine g_bm ?_) | (with_reducible refine g_lst ?_) | (with_reducible refine g_tup ?_) | (with_reducible refine iteT ?_) | (with_reducible refine iteF ?_) | (with_reducible refine g_nt ?_) | (with_reducible refine g_nf ?_)
  | (with_reducible refine g_par ?_) | (with_reducible refine g_par3 ?_) | (with_reducible refine g_two ?_) | (with_reducible refine g_three ?_) | (with_reducible refine g_ckw ?_) | (with_reducible refine g_yes ?_) | (with_reducible refine g_chain ?_) | (with_reducible refine g_gnil ?_) | (with_reducible refine g_gcons ?_) | (with_reducible refine g_fld ?_) | (with_reducible refine g_sfld ?_) | (with_reducible refine g_isN ?_) | (with_reducible refine g_nint ?_) | (with_reducible refine g_nintB ?_) | (with_reducible refine g_max ?_) | (with_reducible refine g_min ?_))))
def word (n : Nat) : Str := if n = 0 then "none" else if n = 1 then "one" else "two"
/-- o is an option of h -/
def Legal (R : List Rl) (h : Int) (o : List Int) : Prop := Can R h (word o.length) (h - o.sum)
/-- o may be asked as an option -/
def OptI (o : List Int) : Prop := o.length ≤ 2 ∧ ∀ x ∈ o, 1 ≤ x ∧ x ≤ 10 ^ 18
/-- no option at all -/
def NoOpt (K : PySem.W.Frag) (H : Hp) (v : V) : Prop := NSeq H v ∨ ∃ a xs, v = .ref a ∧ Seq K H a xs ∧ (∀ x ∈ xs, Plain K H x) ∧ ¬ (xs.length ≤ 2 ∧ ∀ x ∈ xs, isHp x = true)
/-- the option o stands at v -/
def OptAt (K : PySem.W.Frag) (H : Hp) (v : V) (o : List Int) : Prop := (∃ a, v = .ref a ∧ Seq K H a (o.map V.int)) ∧ OptI o
theorem NoOpt.ex {K : PySem.W.Frag} {H H' : Hp} {v : V} (h : NoOpt K H v) (e : Ex H H') : NoOpt K H' v := by
  rcases h with h | ⟨a, xs, h1, h2, h3, h4⟩
  · exact .inl (h.ex e)
  · exact .inr ⟨a, xs, h1, h2.ex e, fun x hx => (h3 x hx).ex e, h4⟩
theorem OptAt.ex {K : PySem.W.Frag} {H H' : Hp} {v : V} {o : List Int} (h : OptAt K H v o) (e : Ex H H') : OptAt K H' v o := by
  obtain ⟨⟨a, h1, h2⟩, h3⟩ := h
  exact ⟨⟨a, h1, h2.ex e⟩, h3⟩
theorem hp_int {i : Int} (h : 1 ≤ i ∧ i ≤ 10 ^ 18) : isHp (.int i) = true := decide_eq_true h
/-- what option_in answers -/
def OptOut (R : List Rl) (h : Int) (o : List Int) (H : Hp) (Q : VK) : Prop := (Legal R h o → ∀ H' p (o' : List Int), Ex H H' → H p = none → H' p = some (.lst (o'.map V.int)) → o'.Perm o → o'.Pairwise (· ≤ ·) → Q (.ref p) H') ∧ (¬ Legal R h o → ∀ H', Ex H H' → Q .non H')
def spOption (K : PySem.W.Frag) : Sp := fun vs H Q _ => ∃ (b v : V) (R : List Rl) (h : Int), vs = [b, .int h, v] ∧ BookAt K H b R ∧ Goods R ∧ 1 ≤ h ∧ h ≤ 10 ^ 18 ∧ ((NoOpt K H v ∧ ∀ H', Ex H H' → Q .non H') ∨ ∃ o, OptAt K H v o ∧ OptOut R h o H Q)
theorem inV_ints {n : Int} {us : List Int} : inV (.int n) (us.map V.int) = decide (n ∈ us) := by
  unfold inV
  induction us with
  | nil => simp
  | cons u us ih =>
    rw [List.map_cons, List.any_cons, ih]
    have e : eqV (.int u) (.int n) = decide (u = n) := by simp [eqV, Bool.beq_eq_decide_eq]
    rw [e]
    by_cases h1 : u = n
    · simp [h1]
    · have h2 : ¬ n = u := fun z => h1 z.symm
      simp [h1, h2]
theorem flat_ints (us : List Int) : (us.map V.int).all flatV = true := by
  induction us with
  | nil => rfl
  | cons u us ih =>
    rw [List.map_cons, List.all_cons, ih]
    rfl
theorem any_map {α : Type} {f : α → Bool} {l : List α} : ((l.map f).any id = true) ↔ ∃ x ∈ l, f x = true := by
  simp
section
variable {P : Program} {w : World} {K : PySem.W.Frag} {mg : Str → Option Value} {base : Heap}
theorem sc_option_in : FnScope ["book", "heap", "thing", "is_gone", "spans", "sums", "one", "low", "high"] ["book", "heap", "thing"] (defScope st_option_in) := ⟨rfl, rfl, rfl, by decide +kernel, rfl, by decide +kernel, by decide +kernel⟩
theorem ok_option_in (T : Txt K mg) : Kept P w K mg base CX0 3 "option_in" ["book", "heap", "thing"] (spOption K) := by
  have G_is_list := ok_is_list (P := P) (w := w) (base := base) T
  have G_is_heap := ok_is_heap (P := P) (w := w) (base := base) T
  have G_spans_in := ok_spans_in (P := P) (w := w) (base := base) T
  refine kept0 T.d_option_in sc_option_in (fun vs H Q E h => ?_) (fun cdv A outer s H0 vs Q E hr h => ?_)
  · obtain ⟨b, v, R, h, rfl, _⟩ := h
    rfl
  · obtain ⟨b, v, R, h, rfl, hB, g, h1, h18, q⟩ := h
    refine ⟨_, (pss_cons (ps_if (PW.pt (pw_or (pt_not (pt_val (pe_c G_is_list (hr.mono (by decide)) pass0 (pa_cons (pv 2) pa_nil)))) (pw_or (pt_cmpR op_gt (pe_callB (cLenK K) (by rfl) T.f_len (by decide +kernel) (pa_cons (pv 2) pa_nil)) pe_int (nomark _)) (pw_or1 (pt_not (pt_val (pe_callB (cr_all rfl) (by rfl) T.f_all (by decide +kernel) (pa_cons (pe_lc rfl (own := [("one", 6)]) sc_option_in.nd (pi_q (pv 2)) (blkOk_by (own := [("one", 6)]) (N := ["book", "heap", "thing", "is_gone", "spans", "sums", "one", "low", "high"]) (sc := defScope st_option_in) (by decide +kernel)) (fun _ _ _ _ _ => (pg_name (i := 6) sc_option_in.nd rfl (Or.inl rfl))) (fun _ _ _ _ _ => pts_nil) (fun _ _ _ _ _ => (pe_c G_is_heap (hr.mono (by decide)) pass0 (pa_cons (pv 6) pa_nil)))) pa_nil)))))))) (pss_one (ps_ret pe_non)) pss_nil)
      (pss_cons (ps_asg (pe_c G_spans_in (hr.mono (by decide)) pass0 (pa_cons (pv 0) (pa_cons (pv 1) pa_nil))) (pg_tup rfl (pgs_cons (pg_name (i := 3) sc_option_in.nd rfl (Or.inl rfl)) (pgs_cons (pg_name (i := 4) sc_option_in.nd rfl (Or.inl rfl)) (pgs_cons (pg_name (i := 5) sc_option_in.nd rfl (Or.inl rfl)) pgs_nil)))))
      (pss_cons (ps_if (pt_cmpR op_eq (pe_callB (cLenK K) (by rfl) T.f_len (by decide +kernel) (pa_cons (pv 2) pa_nil)) pe_int (nomark _)) (pss_one (ps_ret (pe_ifExp (pt_val (pv 3)) (pe_lst pa_nil) pe_non))) pss_nil)
      (pss_cons (ps_if (pt_cmpR op_eq (pe_callB (cLenK K) (by rfl) T.f_len (by decide +kernel) (pa_cons (pv 2) pa_nil)) pe_int (nomark _)) (pss_one (ps_ret (pe_ifExp (pt_val (pe_callB (cr_any rfl) (by rfl) T.f_any (by decide +kernel) (pa_cons (pe_lc rfl (own := [("low", 7), ("high", 8)]) sc_option_in.nd (pi_q (pv 4)) (blkOk_by (own := [("low", 7), ("high", 8)]) (N := ["book", "heap", "thing", "is_gone", "spans", "sums", "one", "low", "high"]) (sc := defScope st_option_in) (by decide +kernel)) (fun _ _ _ _ _ => (pg_tupK K (n := 2) rfl (pgs_cons (pg_name (i := 7) sc_option_in.nd rfl (Or.inl rfl)) (pgs_cons (pg_name (i := 8) sc_option_in.nd rfl (Or.inl rfl)) pgs_nil)))) (fun _ _ _ _ _ => pts_nil) (fun _ _ _ _ _ => (pe_chain op_le op_le (pv 7) (pe_ix (ixQ K) (pv 2) pe_int (fun _ _ => rfl)) (pv 8)))) pa_nil))) (pe_callTy cList (by rfl) T.f_list (by decide +kernel) (pa_cons (pv 2) pa_nil)) pe_non))) pss_nil)
      (pss_one (ps_ret (pe_ifExp (pt_cmpR op_in_seq (pe_op op_add (pe_ix (ixQ K) (pv 2) pe_int (fun _ _ => rfl)) (pe_ix (ixQ K) (pv 2) pe_int (fun _ _ => rfl))) (pv 5) (by rfl)) (pe_callB cr_sortQ (by rfl) T.f_sorted (by decide +kernel) (pa_cons (pv 2) pa_nil)) pe_non))))))), ?_⟩
    walk_at "k"
    with_reducible refine g_ifS ?_
    walk_at "k"
    rcases q with ⟨hno | ⟨a, xs, rfl, hs, hpl, hbad⟩, q⟩ | ⟨o, ⟨⟨a, rfl, hs⟩, hlen, hin⟩, q⟩
    · refine ⟨v, false, rfl, .inr ⟨rfl, hno⟩, fun H1 e1 => ?_⟩
      walk_at "k"
      exact q H1 e1
    · refine ⟨.ref a, true, rfl, .inl ⟨rfl, a, xs, rfl, hs⟩, fun H1 e1 => ?_⟩
      walk_at "k"
      replace hs := hs.ex e1
      replace hpl := fun x hx => (hpl x hx).ex e1
      refine g_len hs ?_
      walk_at "k"
      by_cases hlen : xs.length ≤ 2
      · rw [decide_eq_false (by omega)]
        walk_at "k"
        refine g_lcQ (a := a) (xs := xs) (G := H1) (fun R hR => ?_) hs (fun _ _ z => z) fun L hL => ⟨fun j ac H' => Ex H1 H' ∧ ac = (xs.take j).map fun x => V.bl (isHp x), fun H4 b4 e4 _ => ⟨e4, by rw [List.take_zero]; rfl⟩, fun _ _ _ z => z.1, ?_, ?_⟩
        · walk_at "k"
          exact hR
        · rintro j ac y H4 hy hl hL4 ⟨e4, rfl⟩
          refine g_lcs ?_
          walk_at "k"
          refine ⟨rfl, ?_⟩
          walk_at "k"
          refine ⟨y, rfl, (hpl y (List.mem_of_getElem? hy)).ex e4, ?_⟩
          refine lcT_of hl (by have := (List.getElem?_eq_some_iff.mp hy).1; omega) hL4 fun H5 b5 h5 => ⟨ex_but e4 hL b5, ?_⟩
          rw [take_snoc hy, List.map_append]
          rfl
        rintro ac H2 hal hL2 ⟨e2, rfl⟩
        rw [List.take_length] at hL2
        walk_at "k"
        refine g_all (bs := xs.map isHp) (sq_of (by rw [List.map_map]; exact hL2)) ?_
        walk_at "k"
        have hf : (xs.map isHp).all id = false := by
          cases z : (xs.map isHp).all id with
          | false => rfl
          | true => exact absurd ⟨hlen, fun x hx => List.all_eq_true.mp z _ (List.mem_map_of_mem hx)⟩ hbad
        rw [hf]
        walk_at "k"
        exact q H2 (e1.trans e2)
      · rw [decide_eq_true (by omega)]
        walk_at "k"
        exact q H1 e1
    · refine ⟨.ref a, true, rfl, .inl ⟨rfl, a, _, rfl, hs⟩, fun H1 e1 => ?_⟩
      walk_at "k"
      replace hs := hs.ex e1
      refine g_len hs ?_
      rw [List.length_map]
      walk_at "k"
      rw [decide_eq_false (by omega)]
      walk_at "k"
      obtain ⟨xs, hxs⟩ : ∃ xs, xs = o.map V.int := ⟨_, rfl⟩
      rw [← hxs] at hs
      have hxl : xs.length = o.length := by rw [hxs, List.length_map]
      have hpl : ∀ x ∈ xs, Plain K H1 x := fun x hx => by
        rw [hxs] at hx
        obtain ⟨i, _, rfl⟩ := List.mem_map.mp hx
        exact .inl (.inr (.inr (.inl ⟨i, rfl⟩)))
      refine g_lcQ (a := a) (xs := xs) (G := H1) (fun R hR => ?_) hs (fun _ _ z => z) fun L hL => ⟨fun j ac H' => Ex H1 H' ∧ ac = (xs.take j).map fun x => V.bl (isHp x), fun H4 b4 e4 _ => ⟨e4, by rw [List.take_zero]; rfl⟩, fun _ _ _ z => z.1, ?_, ?_⟩
      · walk_at "k"
        exact hR
      · rintro j ac y H4 hy hl hL4 ⟨e4, rfl⟩
        refine g_lcs ?_
        walk_at "k"
        refine ⟨rfl, ?_⟩
        walk_at "k"
        refine ⟨y, rfl, (hpl y (List.mem_of_getElem? hy)).ex e4, ?_⟩
        refine lcT_of hl (by have := (List.getElem?_eq_some_iff.mp hy).1; omega) hL4 fun H5 b5 h5 => ⟨ex_but e4 hL b5, ?_⟩
        rw [take_snoc hy, List.map_append]
        rfl
      rintro ac H2 hal hL2 ⟨e2, rfl⟩
      rw [List.take_length] at hL2
      walk_at "k"
      refine g_all (bs := xs.map isHp) (sq_of (by rw [List.map_map]; exact hL2)) ?_
      walk_at "k"
      have hf : (xs.map isHp).all id = true := by
        rw [hxs, List.map_map]
        refine List.all_eq_true.mpr fun b hb => ?_
        obtain ⟨i, hi, rfl⟩ := List.mem_map.mp hb
        exact hp_int (hin i hi)
      rw [hf]
      walk_at "k"
      replace hs := hs.ex e2
      rw [hxs] at hs
      have e02 := e1.trans e2
      refine ⟨b, R, h, rfl, hB.ex e02, g, h1, h18, fun H3 t l m ys gone qs us e3 ht hl3 hqs hm3 told => ?_⟩
      have hs3 := hs.ex e3
      have e03 := e02.trans e3
      walk_at "k"
      refine g_gtup ht rfl ?_
      walk_at "k"
      with_reducible refine g_ifS ?_
      walk_at "k"
      refine g_len hs3 ?_
      rw [List.length_map]
      walk_at "k"
      rcases o with _ | ⟨i, _ | ⟨j, _ | ⟨k, o⟩⟩⟩
      · walk_at "k"
        have hg : gone = true ↔ Legal R h [] := by
          rw [told.gone]
          show _ ↔ Can R h "none" (h - 0)
          rw [Int.sub_zero]
        rw [show (decide ((([] : List Int).length : Int) = 0)) = true from rfl]
        walk_at "k"
        cases gone with
        | true =>
          walk_at "k"
          refine g_new (sz (by decide)) fun p H4 np e4 hp4 b4 => ?_
          exact q.1 (hg.mp rfl) H4 p [] (e03.trans e4) (none_ex e03 np) hp4 (.refl _) .nil
        | false =>
          walk_at "k"
          exact q.2 (fun z => by cases hg.mpr z) H3 e03
      · rw [show (decide ((([i] : List Int).length : Int) = 0)) = false from rfl]
        walk_at "k"
        with_reducible refine g_ifS ?_
        walk_at "k"
        refine g_len hs3 ?_
        walk_at "k"
        rw [show (decide (((List.map V.int [i]).length : Int) = 1)) = true from rfl]
        walk_at "k"
        refine g_lcQ (a := l) (xs := ys) (G := H3) (fun R hR => ?_) (.inl hl3) (fun _ _ z => z) fun L hL => ⟨fun jj ac H' => Ex H3 H' ∧ ac = (qs.take jj).map fun p => V.bl (decide (p.1 ≤ i) && decide (i ≤ p.2)), fun H4 b4 e4 _ => ⟨e4, by rw [List.take_zero]; rfl⟩, fun _ _ _ z => z.1, ?_, ?_⟩
        · walk_at "k"
          exact hR
        · rintro jj ac y H4 hy hl hL4 ⟨e4, rfl⟩
          obtain ⟨p, hp, b', rfl, hbp⟩ := prd_get hqs hy
          have more : LcT L (fun jj ac H' => Ex H3 H' ∧ ac = (qs.take jj).map fun p => V.bl (decide (p.1 ≤ i) && decide (i ≤ p.2))) (jj + 1) (V.bl (decide (p.1 ≤ i) && decide (i ≤ p.2))) H4 := by
            refine lcT_of hl (by have := (List.getElem?_eq_some_iff.mp hp).1; have := told.len; omega) hL4 fun H5 b5 h5 => ⟨ex_but e4 hL b5, ?_⟩
            rw [take_snoc hp, List.map_append]
            rfl
          refine g_lcs ?_
          walk_at "k"
          refine g_gtup (ex_t e4 hbp) rfl ?_
          walk_at "k"
          refine ⟨rfl, ?_⟩
          walk_at "k"
          refine g_ixQ (hs3.ex e4) rfl ?_
          walk_at "k"
          by_cases c1 : p.1 ≤ i
          · rw [decide_eq_true c1] at more ⊢
            walk_at "k"
            exact more
          · rw [decide_eq_false c1] at more ⊢
            walk_at "k"
            exact more
        · rintro ac H4 _ hL4 ⟨e4, rfl⟩
          rw [prd_len hqs, List.take_length] at hL4
          walk_at "k"
          refine g_any (bs := qs.map fun p => decide (p.1 ≤ i) && decide (i ≤ p.2)) (sq_of (by rw [List.map_map]; exact hL4)) ?_
          have hi1 := hin i (by simp)
          have hg : ((qs.map fun p => decide (p.1 ≤ i) && decide (i ≤ p.2)).any id = true) ↔ Legal R h [i] := by
            rw [any_map]
            show _ ↔ Can R h "one" (h - (i + 0))
            rw [Int.add_zero]
            have z := told.one i
            constructor
            · rintro ⟨p, hp, hc⟩
              simp only [Bool.and_eq_true, decide_eq_true_eq] at hc
              exact (z.mp ⟨p, hp, hc⟩).2
            · intro hc
              obtain ⟨p, hp, hc⟩ := z.mpr ⟨hi1.1, hc⟩
              exact ⟨p, hp, by simp only [Bool.and_eq_true, decide_eq_true_eq]; exact hc⟩
          walk_at "k"
          cases z : (qs.map fun p => decide (p.1 ≤ i) && decide (i ≤ p.2)).any id with
          | true =>
            walk_at "k"
            refine g_list (hs3.ex e4) fun p H5 np e5 hp5 b5 => ?_
            have e05 := (e03.trans e4).trans e5
            exact q.1 (hg.mp z) H5 p [i] e05 (none_ex (e03.trans e4) np) hp5 (.refl _) (List.pairwise_singleton _ _)
          | false =>
            walk_at "k"
            exact q.2 (fun y => by rw [hg.mpr y] at z; cases z) H4 (e03.trans e4)
      · rw [show (decide ((([i, j] : List Int).length : Int) = 0)) = false from rfl]
        walk_at "k"
        with_reducible refine g_ifS ?_
        walk_at "k"
        refine g_len hs3 ?_
        walk_at "k"
        rw [show (decide (((List.map V.int [i, j]).length : Int) = 1)) = false from rfl]
        walk_at "k"
        refine g_ixQ hs3 rfl ?_
        walk_at "k"
        refine g_ixQ hs3 rfl ?_
        walk_at "k"
        refine g_in (.inl hm3) rfl (flat_ints us) inV_ints ?_
        walk_at "k"
        have hi1 := hin i (by simp)
        have hj1 := hin j (by simp)
        have hg : (i + j ∈ us) ↔ Legal R h [i, j] := by
          rw [told.two]
          show _ ↔ Can R h "two" (h - (i + (j + 0)))
          rw [Int.add_zero]
          exact ⟨fun z => z.2, fun z => ⟨by omega, z⟩⟩
        by_cases hc : i + j ∈ us
        · rw [decide_eq_true hc]
          walk_at "k"
          refine ⟨a, [i, j], rfl, hs3, fun ns' p hp hso np => ?_⟩
          exact q.1 (hg.mp hc) _ p ns' (e03.trans (Evl.Ex.new np)) (none_ex e03 np) upd_same hp hso
        · rw [decide_eq_false hc]
          walk_at "k"
          exact q.2 (fun y => hc (hg.mpr y)) H3 e03
      · simp only [List.length_cons] at hlen
        omega
end
end Tk
namespace Tk
open PySem PySem.Spec PyProof.Rows L2
open Evl (Ex ex_l ex_t ex_rd sq_of st_of fresh_back)
local macro_rules | `(tactic| walk_at "g") => `(tactic| (repeat (first
  | (with_reducible refine g_seq ?_) | (with_reducible refine g_asg ?_) | (with_reducible refine g_name ?_) | (with_reducible refine g_sub ?_)
  | ((with_reducible refine' g_var ?e ?_); (case e => exact rfl)) | (with_reducible refine g_c ?_) | (with_reducible refine g_op ?_) | (with_reducible refine g_un ?_) | (with_reducible refine g_U ?_)
  | (with_reducible refine g_I0 ?_) | (with_reducible refine g_eqI ?_) | (with_reducible refine g_neI ?_) | (with_reducible refine g_eqS ?_) | (with_reducible refine g_neS ?_) | (with_reducible refine g_eqB ?_) | (with_reducible refine g_neB ?_)
  | (with_reducible refine g_test ?_) | (with_reducible refine g_tB ?_) | (with_reducible refine g_bl ?_) | (with_reducible refine g_and ?_) | (with_reducible refine g_or ?_) | (with_reducible refine g_not ?_)
  | (with_reducible refine g_andV ?_) | (with_reducible refine g_orV ?_) | (with_reducible refine g_notV ?_) | (with_reducible refine g_ifE ?_) | (with_reducible refine g_ifS ?_)
  | (with_reducible refine g_next ?_) | (with_reducible refine g_ret ?_) | (with_reducible refine g_drop ?_) | (with_reducible refine g_nil ?_) | (with_reducible refine g_cons ?_) | (with_reducible refine g_call ?_)
  | (with_reducible refine g_cb ?_) | (with_reducible refine g_bm ?_) | (with_reducible refine g_lst ?_) | (with_reducible refine g_tup ?_) | (with_reducible refine iteT ?_) | (with_reducible refine iteF ?_) | (with_reducible refine g_nt ?_) | (with_reducible refine g_nf ?_)
  | (with_reducible refine g_par ?_) | (with_reducible refine g_par3 ?_) | (with_reducible refine g_two ?_) | (with_reducible refine g_three ?_) | (with_reducible refine g_ckw ?_) | (with_reducible refine g_yes ?_) | (with_reducible refine g_chain ?_) | (with_reducible refine g_gnil ?_) | (with_reducible refine g_gcons ?_) | (with_reducible refine g_fld ?_) | (with_reducible refine g_sfld ?_) | (with_reducible refine g_isN ?_) | (with_reducible refine g_nint ?_) | (with_reducible refine g_nintB ?_) | (with_reducible refine g_max ?_) | (with_reducible refine g_min ?_))))
local macro_rules | `(tactic| walk_at "k") => `(tactic| (repeat (first
  | (with_reducible refine g_seq ?_) | (with_reducible refine g_asg ?_) | (with_reducible refine g_name ?_) | (with_reducible refine g_sub ?_)
  | ((with_reducible refine' g_var ?e ?_); (case e => exact rfl)) | (with_reducible refine g_c ?_) | (with_reducible refine g_op ?_) | (with_reducible refine g_un ?_) | (with_reducible refine g_U ?_)
  | (with_reducible refine g_I0 ?_) | (with_reducible refine g_eqI ?_) | (with_reducible refine g_neI ?_) | (with_reducible refine g_eqS ?_) | (with_reducible refine g_neS ?_) | (with_reducible refine g_eqB ?_) | (with_reducible refine g_neB ?_)
  | (with_reducible refine g_test ?_) | (with_reducible refine g_tB ?_) | (with_reducible refine g_bl ?_) | (with_reducible refine g_and ?_) | (with_reducible refine g_or ?_) | (with_reducible refine g_not ?_)
  | (with_reducible refine g_andV ?_) | (with_reducible refine g_orV ?_) | (with_reducible refine g_notV ?_) | (with_reducible refine g_ifE ?_)
  | (with_reducible refine g_next ?_) | (with_reducible refine g_ret ?_) | (with_reducible refine g_drop ?_) | (with_reducible refine g_nil ?_) | (with_reducible refine g_cons ?_) | (with_reducible refine g_call ?_)
  | (with_reducible refine g_cb ?_) | (with_reducible refine g_bm ?_) | (with_reducible refine g_lst ?_) | (with_reducible refine g_tup ?_) | (with_reducible refine iteT ?_) | (with_reducible refine iteF ?_) | (with_reducible refine g_nt ?_) | (with_reducible refine g_nf ?_)
  | (with_reducible refine g_par ?_) | (with_reducible refine g_par3 ?_) | (with_reducible refine g_two ?_) | (with_reducible refine g_three ?_) | (with_reducible refine g_ckw ?_) | (with_reducible refine g_yes ?_) | (with_reducible refine g_chain ?_) | (with_reducible refine g_gnil ?_) | (with_reducible refine g_gcons ?_) | (with_reducible refine g_fld ?_) | (with_reducible refine g_sfld ?_) | (with_reducible refine g_isN ?_) | (with_reducible refine g_nint ?_) | (with_reducible refine g_nintB ?_) | (with_reducible refine g_max ?_) | (with_reducible refine g_min ?_))))
/-- an error of the class x, that holds v, is wanted behind H -/
def ErrE (K : PySem.W.Frag) (x : Str) (v : V) (H : Hp) (E : XK) : Prop := ∀ d H', H d = none → Ex H H' → H' d = some (.xd [("thing", v)]) → E (.ref (He.ga K x)) (some d) H'
theorem ErrE.ex {K : PySem.W.Frag} {x : Str} {v : V} {H H1 : Hp} {E : XK} (h : ErrE K x v H E) (e : Ex H H1) : ErrE K x v H1 E := fun d H' nd e' hd => h d H' (none_ex e nd) (e.trans e') hd
theorem ErrE.err {K : PySem.W.Frag} {x : Str} {v : V} {H : Hp} {E : XK} (h : ErrE K x v H E) : Err K x v H E := Err.ex h
/-- no book -/
def NoBook (H : Hp) (v : V) : Prop := (NSeq H v ∨ ∃ a xs, v = .ref a ∧ H a = some (.lst xs)) ∧ ∀ b, v ≠ .bl b
/-- a heap that may be asked -/
def HeapV (v : V) (h : Int) : Prop := v = .int h ∧ 1 ≤ h ∧ h ≤ 10 ^ 18
/-- the answers of checked_option, ways_to -/
def AskOpt (K : PySem.W.Frag) (b hv v : V) (H : Hp) (E : XK) (ok : List Rl → Int → List Int → Prop) : Prop := (NoBook H b ∧ ErrE K "BadBook" b H E) ∨ ∃ R, BookAt K H b R ∧ Goods R ∧
  ((Plain K H hv ∧ isHp hv = false ∧ ErrE K "BadHeap" hv H E) ∨ ∃ h, HeapV hv h ∧ ((NoOpt K H v ∧ ErrE K "BadOption" v H E) ∨ ∃ o, OptAt K H v o ∧ (¬ Legal R h o → ErrE K "BadOption" v H E) ∧ (Legal R h o → ok R h o)))
theorem AskOpt.imp {K : PySem.W.Frag} {b hv v : V} {H : Hp} {E : XK} {ok ok' : List Rl → Int → List Int → Prop} (h : AskOpt K b hv v H E ok) (k : ∀ R h o, BookAt K H b R → Goods R → HeapV hv h → OptAt K H v o → Legal R h o → ok R h o → ok' R h o) : AskOpt K b hv v H E ok' := by
  rcases h with h | ⟨R, h1, h2, h | ⟨z, h3, h | ⟨o, h4, h5, h6⟩⟩⟩
  · exact .inl h
  · exact .inr ⟨R, h1, h2, .inl h⟩
  · exact .inr ⟨R, h1, h2, .inr ⟨z, h3, .inl h⟩⟩
  · exact .inr ⟨R, h1, h2, .inr ⟨z, h3, .inr ⟨o, h4, h5, fun l => k R z o h1 h2 h3 h4 l (h6 l)⟩⟩⟩
def spCkOption (K : PySem.W.Frag) : Sp := fun vs H Q E => ∃ (b hv v : V), vs = [b, hv, v] ∧ AskOpt K b hv v H E fun R h o => ∀ H' p (o' : List Int), Ex H H' → H p = none → H' p = some (.lst (o'.map V.int)) → o'.Perm o → Q (.ref p) H'
section
variable {P : Program} {w : World} {K : PySem.W.Frag} {mg : Str → Option Value} {base : Heap}
theorem sc_checked_option : FnScope ["book", "heap", "option", "found"] ["book", "heap", "option"] (defScope st_checked_option) := ⟨rfl, rfl, rfl, by decide +kernel, rfl, by decide +kernel, by decide +kernel⟩
theorem ok_checked_option (T : Txt K mg) : Kept P w K mg base (L2.CX P w) 5 "checked_option" ["book", "heap", "option"] (spCkOption K) := by
  have G_checked_book := ok_checked_book (P := P) (w := w) (base := base) T
  have G_checked_heap := ok_checked_heap (P := P) (w := w) (base := base) T
  have G_option_in := ok_option_in (P := P) (w := w) (base := base) T
  refine keptX T.d_checked_option sc_checked_option (fun vs H Q E h => ?_) (fun cdv A outer s H0 vs Q E hr h => ?_)
  · obtain ⟨b, hv, v, rfl, _⟩ := h
    rfl
  · obtain ⟨b, hv, v, rfl, hA⟩ := h
    refine ⟨_, (pss_cons (ps_set (i := 3) sc_checked_option.nd rfl (Or.inl rfl) (pe_c G_option_in (hr.mono (by decide)) pass0 (pa_cons (pe_c G_checked_book (hr.mono (by decide)) (passes_call (takes_of rfl rfl rfl rfl) (fun _ _ _ _ h => h)) (pa_cons (pv 0) pa_nil)) (pa_cons (pe_c G_checked_heap (hr.mono (by decide)) (passes_call (takes_of rfl rfl rfl rfl) (fun _ _ _ _ h => h)) (pa_cons (pv 1) pa_nil)) (pa_cons (pv 2) pa_nil)))))
      (pss_cons (ps_if (pt_cmpR op_isN (pv 3) pe_non (nomark _)) (pss_one (ps_err (k := 0) T.e_BadOption ok_BadOption_init (hr.mono (by decide)) rfl (takes_of rfl rfl rfl rfl) (pv 2))) pss_nil)
      (pss_one (ps_ret (pv 3))))), ?_⟩
    walk_at "k"
    rcases hA with ⟨hno, hE⟩ | ⟨R, hB, g, hA⟩
    · exact ⟨b, rfl, .inr ⟨hno.1, hno.2, hE.err⟩⟩
    · have hB' := hB
      obtain ⟨b0, dx, t, fs, ys, rfl, hb, _⟩ := hB'
      refine ⟨.ref b0, rfl, .inl ⟨b0, dx, fs, rfl, hb, ?_⟩⟩
      walk_at "k"
      rcases hA with ⟨hp, hbad, hE⟩ | ⟨h, ⟨rfl, h1, h18⟩, hA⟩
      · exact ⟨hv, rfl, hp, fun z => (by rw [hbad] at z; cases z), fun _ => hE.err⟩
      · refine ⟨.int h, rfl, .inl (.inr (.inr (.inl ⟨h, rfl⟩))), fun _ => ?_, fun z => (by rw [hp_int ⟨h1, h18⟩] at z; cases z)⟩
        walk_at "k"
        refine ⟨.ref b0, v, R, h, rfl, hB, g, h1, h18, ?_⟩
        rcases hA with ⟨hno, hE⟩ | ⟨o, ho, hbad, hok⟩
        · refine .inl ⟨hno, fun H1 e1 => ?_⟩
          walk_at "k"
          with_reducible refine g_ifS ?_
          walk_at "k"
          rw [show decide (V.non = V.non) = true from rfl]
          walk_at "k"
          refine g_err ?_
          walk_at "k"
          exact errRaw T.e_BadOption (hE.ex e1).err
        · refine .inr ⟨o, ho, fun hl H1 p o' e1 np hp ho' hs => ?_, fun hl H1 e1 => ?_⟩
          · walk_at "k"
            with_reducible refine g_ifS ?_
            walk_at "k"
            rw [show decide (V.ref p = V.non) = false from rfl]
            walk_at "k"
            exact hok hl H1 p o' e1 np hp ho'
          · walk_at "k"
            with_reducible refine g_ifS ?_
            walk_at "k"
            rw [show decide (V.non = V.non) = true from rfl]
            walk_at "k"
            refine g_err ?_
            walk_at "k"
            exact errRaw T.e_BadOption ((hbad hl).ex e1).err
/-! ### the ways -/
def WayT (K : PySem.W.Frag) (H : Hp) (n : Int) (v : V) (r : Rl) : Prop := ∃ t u, v = .ref t ∧ SqT K H t [u, .int n] ∧ RuleT K H u r
theorem WayT.ex {K : PySem.W.Frag} {H H' : Hp} {n : Int} {v : V} {r : Rl} (h : WayT K H n v r) (e : Ex H H') : WayT K H' n v r := by
  obtain ⟨t, u, h1, h2, h3⟩ := h
  exact ⟨t, u, h1, ex_t e h2, h3.ex e⟩
theorem WayT.del {K : PySem.W.Frag} {H : Hp} {n : Int} {p : Addr} {ob : HO} {v : V} {r : Rl} (q : WayT K H n v r) (h : H p = some ob) (ho : tupO ob = false := by rfl) : WayT K (del H p) n v r := by
  obtain ⟨t, u, h1, h2, h3⟩ := q
  exact ⟨t, u, h1, sqT_del h2 h ho, h3.del h ho⟩
/-- a rule that gives the way -/
def isWay (h n : Int) (w : Str) (r : Rl) : Bool := decide (r.lf = w) && decide (h % r.mo = r.re) && decide (r.lo ≤ n) && decide (n ≤ most r h)
def ways (R : List Rl) (h : Int) (o : List Int) : List Rl := R.filter (isWay h (h - o.sum) (word o.length))
theorem legal_ways {R : List Rl} {h : Int} {o : List Int} : Legal R h o ↔ ways R h o ≠ [] := by
  unfold Legal ways Can
  rw [Ne, List.filter_eq_nil_iff]
  constructor
  · rintro ⟨r, hr, h1, h2, h3, h4⟩ hn
    exact hn r hr (by simp [isWay, h1, h2, h3, h4])
  · intro hn
    refine Classical.byContradiction fun hc => hn fun r hr z => hc ⟨r, hr, ?_⟩
    simp only [isWay, Bool.and_eq_true, decide_eq_true_eq] at z
    exact ⟨z.1.1.1, z.1.1.2, z.1.2, z.2⟩
def spWays (K : PySem.W.Frag) : Sp := fun vs H Q E => ∃ (b hv v : V), vs = [b, hv, v] ∧ AskOpt K b hv v H E fun R h o => ∀ H' p ys, Ex H H' → H p = none → H' p = some (.lst ys) → Paired (WayT K H' (h - o.sum)) ys (ways R h o) → Q (.ref p) H'
theorem sum_perm {a b : List Int} (h : a.Perm b) : a.sum = b.sum := by
  induction h with
  | nil => rfl
  | cons x _ ih => rw [List.sum_cons, List.sum_cons, ih]
  | swap x y l => simp only [List.sum_cons]; omega
  | trans _ _ h1 h2 => exact h1.trans h2
theorem sc_ways_to : FnScope ["book", "heap", "option", "kept", "word", "number", "found", "rule"] ["book", "heap", "option"] (defScope st_ways_to) := ⟨rfl, rfl, rfl, by decide +kernel, rfl, by decide +kernel, by decide +kernel⟩
theorem ok_ways_to (T : Txt K mg) : Kept P w K mg base (L2.CX P w) 6 "ways_to" ["book", "heap", "option"] (spWays K) := by
  have G_checked_option := ok_checked_option (P := P) (w := w) (base := base) T
  have G_taken_most := ok_taken_most (P := P) (w := w) (base := base) T
  refine keptX T.d_ways_to sc_ways_to (fun vs H Q E h => ?_) (fun cdv A outer s H0 vs Q E hr h => ?_)
  · obtain ⟨b, hv, v, rfl, _⟩ := h
    rfl
  · obtain ⟨b, hv, v, rfl, hA⟩ := h
    refine ⟨_, (pss_cons (ps_set (i := 3) sc_ways_to.nd rfl (Or.inl rfl) (pe_c G_checked_option (hr.mono (by decide)) (passes_call (takes_of rfl rfl rfl rfl) (fun _ _ _ _ h => h)) (pa_cons (pv 0) (pa_cons (pv 1) (pa_cons (pv 2) pa_nil)))))
      (PSs.nox (pss_cons (ps_par (i := 4) (j := 5) rfl sc_ways_to.nd rfl rfl (by decide) rfl rfl (pa_cons (pe_ix (ixT K) (pe_tup (pa_cons pe_str (pa_cons pe_str (pa_cons pe_str pa_nil)))) (pe_callB (cLenK K) (by rfl) T.f_len (by decide +kernel) (pa_cons (pv 3) pa_nil)) (fun _ _ => rfl)) (pa_cons (pe_op op_sub (pv 1) (pe_callB (cr_sum rfl) (by rfl) T.f_sum (by decide +kernel) (pa_cons (pv 3) pa_nil))) pa_nil)) rfl)
      (pss_cons (ps_set (i := 6) sc_ways_to.nd rfl (Or.inl rfl) (pe_lst pa_nil))
      (pss_cons (ps_for PassesOwn.never rfl (pi_q (pe_fld (pv 0) rfl)) (pg_name (i := 7) sc_ways_to.nd rfl (Or.inl rfl)) (pss_one (ps_if (PW.pt (pw_and (pt_cmpR op_eq (pe_ix (ixT K) (pv 7) pe_int (fun _ _ => rfl)) (pv 4) (nomark _)) (pw_and (pt_cmpR op_eq (pe_op op_mod (pv 1) (pe_ix (ixT K) (pv 7) pe_int (fun _ _ => rfl))) (pe_ix (ixT K) (pv 7) pe_int (fun _ _ => rfl)) (nomark _)) (pw_and1 (pt_chain op_le op_le (pe_ix (ixT K) (pv 7) pe_int (fun _ _ => rfl)) (pv 5) (pe_c G_taken_most (hr.mono (by decide)) pass0 (pa_cons (pv 7) (pa_cons (pv 1) pa_nil)))))))) (pss_one (ps_expr (pe_bmK K PySem.F.plainAttrs_list PySem.F.slot_list_append PySem.F.type_list_append mt_append (pv 6) (pa_cons (pe_tup (pa_cons (pv 7) (pa_cons (pv 5) pa_nil))) pa_nil)))) pss_nil)))
      (pss_one (ps_ret (pv 6)))))))), ?_⟩
    walk_at "k"
    refine ⟨b, hv, v, rfl, hA.imp fun R h o hB g hh hO hl hok H1 p o' e1 np hp ho' => ?_⟩
    obtain ⟨rfl, h1, h18⟩ := hh
    obtain ⟨_, ho2, _⟩ := hO
    have hol : o'.length = o.length := ho'.length_eq
    walk_at "k"
    refine g_newT (sz (by decide)) fun tw H2 ntw e2 htw b2 => ?_
    walk_at "k"
    refine g_len (.inl (sq_of (e2 _ _ hp))) ?_
    rw [List.length_map, hol]
    refine g_ixT (v := .str (word o.length)) (st_of htw) ?_ ?_
    · rcases o with _ | ⟨i, _ | ⟨j, _ | ⟨k, o⟩⟩⟩
      · rfl
      · rfl
      · rfl
      · simp only [List.length_cons] at ho2
        omega
    walk_at "k"
    refine g_sum (sq_of (e2 _ _ hp)) ?_
    rw [sum_perm ho']
    walk_at "k"
    refine g_new (sz (by decide)) fun f H3 nf e3 hf b3 => ?_
    walk_at "k"
    obtain ⟨n, hn⟩ : ∃ n, n = h - o.sum := ⟨_, rfl⟩
    obtain ⟨w', hw⟩ : ∃ w', w' = word o.length := ⟨_, rfl⟩
    have hways : ways R h o = R.filter (isWay h n w') := by rw [hn, hw]; rfl
    rw [hways, ← hn] at hok
    rw [← hn, ← hw]
    obtain ⟨b0, dx, t, fs, ys, rfl, hb, hfl, ht, hys⟩ := hB
    have e03 : Ex H0 H3 := e1.trans (e2.trans e3)
    have nf0 : H0 f = none := none_ex (e1.trans e2) nf
    refine g_forI ?_
    walk_at "k"
    refine g_fldV (e03 _ _ hb) T.bookC T.bookN1 hfl ?_
    refine over_for (G := H0) (xs := ys) (.inr ht) e03 (fun i σ H => ∃ (o7 : Option V) (G : Hp) (acc : List V),
      σ = [some (.ref b0), some (.int h), some v, some (.ref p), some (.str w'), some (.int n), some (.ref f), o7] ∧ Ex H0 G ∧ Ex G H ∧ G f = none ∧ H f = some (.lst acc) ∧ acc.length ≤ i ∧ Paired (WayT K G n) acc ((R.take i).filter (isWay h n w'))) ?_ ?_ ?_ ?_
    · exact ⟨none, H0, [], rfl, fun _ _ z => z, e03, nf0, hf, Nat.le_refl _, by rw [List.take_zero]; exact .nil⟩
    · rintro i σ H ⟨_, G, _, _, g1, g2, _⟩
      exact g1.trans g2
    · rintro i x σ H hx ⟨o7, G, acc, rfl, g1, g2, gf, hfH, hal, hacc⟩
      obtain ⟨r, hr', b', rfl, hrt⟩ := prd_get hys hx
      have gr := g.good r (List.mem_of_getElem? hr')
      have hmo := gr.mo1
      have hi6 : i < 6 := by
        have := (List.getElem?_eq_some_iff.mp hr').1
        have := g.len
        omega
      have hrH := ex_t (g1.trans g2) hrt
      walk_at "k"
      with_reducible refine g_ifS ?_
      walk_at "k"
      refine g_ixT hrH rfl ?_
      walk_at "k"
      by_cases c1 : r.lf = w'
      · rw [decide_eq_true c1]
        walk_at "k"
        refine g_ixT hrH rfl ?_
        refine g_I (by omega) ?_
        walk_at "k"
        refine g_ixT hrH rfl ?_
        walk_at "k"
        by_cases c2 : h % r.mo = r.re
        · rw [decide_eq_true c2]
          walk_at "k"
          refine g_ixT hrH rfl ?_
          walk_at "k"
          by_cases c3 : r.lo ≤ n
          · rw [decide_eq_true c3]
            walk_at "k"
            refine ⟨_, r, h, rfl, ⟨b', rfl, hrH⟩, ?_⟩
            walk_at "k"
            by_cases c4 : n ≤ most r h
            · rw [decide_eq_true c4]
              walk_at "k"
              refine ⟨ty_L hfH, ?_⟩
              walk_at "k"
              refine g_newT (sz (of_decide_eq_true rfl)) fun q H4 nq e4 hq4 b4 => ?_
              have hf4 := e4 _ _ hfH
              walk_at "k"
              refine g_app hf4 (szl (by omega)) fun H5 b5 h5 => ?_
              walk_at "k"
              refine ⟨_, del H4 f, acc ++ [.ref q], rfl, ex_del (g1.trans (g2.trans e4)) nf0, del_but b5, del_same, h5, ?_, ?_⟩
              · rw [List.length_append]
                simp only [List.length_cons, List.length_nil]
                omega
              · rw [take_snoc hr', List.filter_append, List.filter_cons_of_pos (by simp [isWay, c1, c2, c3, c4]), List.filter_nil]
                refine prd_app (prd_mono (fun _ _ z => (z.ex (g2.trans e4)).del hf4) hacc) (.cons ⟨q, .ref b', rfl, sqT_del (st_of hq4) hf4, ?_⟩ .nil)
                exact ⟨b', rfl, sqT_del (ex_t e4 hrH) hf4⟩
            · rw [decide_eq_false c4]
              walk_at "k"
              have hno := c4
              refine ⟨_, G, acc, rfl, g1, g2, gf, hfH, by omega, ?_⟩
              rw [take_snoc hr', List.filter_append, List.filter_cons_of_neg (by simp [isWay, hno]), List.filter_nil, List.append_nil]
              exact hacc
          · rw [decide_eq_false c3]
            walk_at "k"
            have hno := c3
            refine ⟨_, G, acc, rfl, g1, g2, gf, hfH, by omega, ?_⟩
            rw [take_snoc hr', List.filter_append, List.filter_cons_of_neg (by simp [isWay, hno]), List.filter_nil, List.append_nil]
            exact hacc
        · rw [decide_eq_false c2]
          walk_at "k"
          have hno := c2
          refine ⟨_, G, acc, rfl, g1, g2, gf, hfH, by omega, ?_⟩
          rw [take_snoc hr', List.filter_append, List.filter_cons_of_neg (by simp [isWay, hno]), List.filter_nil, List.append_nil]
          exact hacc
      · rw [decide_eq_false c1]
        walk_at "k"
        have hno := c1
        refine ⟨_, G, acc, rfl, g1, g2, gf, hfH, by omega, ?_⟩
        rw [take_snoc hr', List.filter_append, List.filter_cons_of_neg (by simp [isWay, hno]), List.filter_nil, List.append_nil]
        exact hacc
    · rintro σ H ⟨o7, G, acc, rfl, g1, g2, gf, hfH, hal, hacc⟩
      rw [prd_len hys, List.take_length] at hacc
      walk_at "k"
      exact hok H f acc (g1.trans g2) nf0 hfH (prd_mono (fun _ _ z => z.ex g2) hacc)
end
end Tk
namespace Tk
open PySem PySem.Spec PyProof.Rows L2
open Evl (Ex ex_l ex_t ex_rd sq_of st_of fresh_back)
local macro_rules | `(tactic| walk_at "g") => `(tactic| (repeat (first
  | (with_reducible refine g_seq ?_) | (with_reducible refine g_asg ?_) | (with_reducible refine g_name ?_) | (with_reducible refine g_sub ?_)
  | ((with_reducible refine' g_var ?e ?_); (case e => exact rfl)) | (with_reducible refine g_c ?_) | (with_reducible refine g_op ?_) | (with_reducible refine g_un ?_) | (with_reducible refine g_U ?_)
  | (with_reducible refine g_I0 ?_) | (with_reducible refine g_eqI ?_) | (with_reducible refine g_neI ?_) | (with_reducible refine g_eqS ?_) | (with_reducible refine g_neS ?_) | (with_reducible refine g_eqB ?_) | (with_reducible refine g_neB ?_)
  | (with_reducible refine g_test ?_) | (with_reducible refine g_tB ?_) | (with_reducible refine g_bl ?_) | (with_reducible refine g_and ?_) | (with_reducible refine g_or ?_) | (with_reducible refine g_not ?_)
  | (with_reducible refine g_andV ?_) | (with_reducible refine g_orV ?_) | (with_reducible refine g_notV ?_) | (with_reducible refine g_ifE ?_) | (with_reducible refine g_ifS ?_)
  | (with_reducible refine g_next ?_) | (with_reducible refine g_ret ?_) | (with_reducible refine g_drop ?_) | (with_reducible refine g_nil ?_) | (with_reducible refine g_cons ?_) | (with_reducible refine g_call ?_)
  | (with_reducible refine g_cb ?_) | (with_reducible refine g_bm ?_) | (with_reducible refine g_lst ?_) | (with_reducible refine g_tup ?_) | (with_reducible refine iteT ?_) | (with_reducible refine iteF ?_) | (with_reducible refine g_nt ?_) | (with_reducible refine g_nf ?_)
  | (with_reducible refine g_par ?_) | (with_reducible refine g_par3 ?_) | (with_reducible refine g_two ?_) | (with_reducible refine g_three ?_) | (with_reducible refine g_ckw ?_) | (with_reducible refine g_yes ?_) | (with_reducible refine g_chain ?_) | (with_reducible refine g_gnil ?_) | (with_reducible refine g_gcons ?_) | (with_reducible refine g_fld ?_) | (with_reducible refine g_sfld ?_) | (with_reducible refine g_isN ?_) | (with_reducible refine g_nint ?_) | (with_reducible refine g_nintB ?_) | (with_reducible refine g_max ?_) | (with_reducible refine g_min ?_))))
local macro_rules | `(tactic| walk_at "k") => `(tactic| (repeat (first
  | (with_reducible refine g_seq ?_) | (with_reducible refine g_asg ?_) | (with_reducible refine g_name ?_) | (with_reducible refine g_sub ?_)
  | ((with_reducible refine' g_var ?e ?_); (case e => exact rfl)) | (with_reducible refine g_c ?_) | (with_reducible refine g_op ?_) | (with_reducible refine g_un ?_) | (with_reducible refine g_U ?_)
  | (with_reducible refine g_I0 ?_) | (with_reducible refine g_eqI ?_) | (with_reducible refine g_neI ?_) | (with_reducible refine g_eqS ?_) | (with_reducible refine g_neS ?_) | (with_reducible refine g_eqB ?_) | (with_reducible refine g_neB ?_)
  | (with_reducible refine g_test ?_) | (with_reducible refine g_tB ?_) | (with_reducible refine g_bl ?_) | (with_reducible refine g_and ?_) | (with_reducible refine g_or ?_) | (with_reducible refine g_not ?_)
  | (with_reducible refine g_andV ?_) | (with_reducible refine g_orV ?_) | (with_reducible refine g_notV ?_) | (with_reducible refine g_ifE ?_)
  | (with_reducible refine g_next ?_) | (with_reducible refine g_ret ?_) | (with_reducible refine g_drop ?_) | (with_reducible refine g_nil ?_) | (with_reducible refine g_cons ?_) | (with_reducible refine g_call ?_)
  | (with_reducible refine g_cb ?_) | (with_reducible refine g_bm ?_) | (with_reducible refine g_lst ?_) | (with_reducible refine g_tup ?_) | (with_reducible refine iteT ?_) | (with_reducible refine iteF ?_) | (with_reducible refine g_nt ?_) | (with_reducible refine g_nf ?_)
  | (with_reducible refine g_par ?_) | (with_reducible refine g_par3 ?_) | (with_reducible refine g_two ?_) | (with_reducible refine g_three ?_) | (with_reducible refine g_ckw ?_) | (with_reducible refine g_yes ?_) | (with_reducible refine g_chain ?_) | (with_reducible refine g_gnil ?_) | (with_reducible refine g_gcons ?_) | (with_reducible refine g_fld ?_) | (with_reducible refine g_sfld ?_) | (with_reducible refine g_isN ?_) | (with_reducible refine g_nint ?_) | (with_reducible refine g_nintB ?_) | (with_reducible refine g_max ?_) | (with_reducible refine g_min ?_))))
theorem sum_pos {l : List Int} (h : ∀ x ∈ l, 1 ≤ x) : 0 ≤ l.sum ∧ (l.sum = 0 ↔ l = []) := by
  induction l with
  | nil => exact ⟨Int.le_refl _, fun _ => rfl, fun _ => rfl⟩
  | cons x l ih =>
    have h1 := h x List.mem_cons_self
    have h2 := (ih fun y hy => h y (List.mem_cons_of_mem _ hy)).1
    rw [List.sum_cons]
    refine ⟨by omega, fun z => by omega, fun z => by cases z⟩
def spMany (K : PySem.W.Frag) : Sp := fun vs H Q _ => ∃ (l m : Addr) (ys : List V) (qs : List (Int × Int)) (us : List Int) (h : Int), vs = [.ref l, .ref m, .int h] ∧ SqL K H l ys ∧ Paired (PairT K H) ys qs ∧ SqL K H m (us.map V.int) ∧ (∀ q ∈ qs, Bn h q) ∧ (∀ u ∈ us, 2 ≤ u ∧ u ≤ h) ∧ qs.length ≤ 6 ∧ us.length ≤ 13 ∧ 1 ≤ h ∧ h ≤ 10 ^ 18 ∧
  ∀ H' n, Ex H H' → 0 ≤ n → (n = 0 ↔ qs = [] ∧ us = []) → Q (.int n) H'
/-- h has no option -/
def Ended (R : List Rl) (h : Int) : Prop := ¬ Can R h "none" h ∧ (∀ o, 1 ≤ o → ¬ Can R h "one" (h - o)) ∧ ∀ b, 2 ≤ b → ¬ Can R h "two" (h - b)
def spCount (K : PySem.W.Frag) : Sp := fun vs H Q _ => ∃ (b : V) (R : List Rl) (h : Int), vs = [b, .int h] ∧ BookAt K H b R ∧ Goods R ∧ 1 ≤ h ∧ h ≤ 10 ^ 18 ∧ ∀ H' n, Ex H H' → (n = 0 ↔ Ended R h) → Q (.int n) H'
section
variable {P : Program} {w : World} {K : PySem.W.Frag} {mg : Str → Option Value} {base : Heap}
theorem sc_many_to : FnScope ["spans", "sums", "most", "ones", "low", "high", "both"] ["spans", "sums", "most"] (defScope st_many_to) := ⟨rfl, rfl, rfl, by decide +kernel, rfl, by decide +kernel, by decide +kernel⟩
theorem ok_many_to (T : Txt K mg) : Kept P w K mg base CX0 1 "many_to" ["spans", "sums", "most"] (spMany K) := by
  refine kept0 T.d_many_to sc_many_to (fun vs H Q E h => ?_) (fun cdv A outer s H0 vs Q E hr h => ?_)
  · obtain ⟨l, m, ys, qs, us, h, rfl, _⟩ := h
    rfl
  · obtain ⟨l, m, ys, qs, us, h, rfl, hl, hq, hm, hb, hu, l6, l13, h1, h18, q⟩ := h
    refine ⟨_, (pss_cons (ps_set (i := 3) sc_many_to.nd rfl (Or.inl rfl) (pe_callB (cr_sum rfl) (by rfl) T.f_sum (by decide +kernel) (pa_cons (pe_lc rfl (own := [("low", 4), ("high", 5)]) sc_many_to.nd (pi_q (pv 0)) (blkOk_by (own := [("low", 4), ("high", 5)]) (N := ["spans", "sums", "most", "ones", "low", "high", "both"]) (sc := defScope st_many_to) (by decide +kernel)) (fun _ _ _ _ _ => (pg_tupK K (n := 2) rfl (pgs_cons (pg_name (i := 4) sc_many_to.nd rfl (Or.inl rfl)) (pgs_cons (pg_name (i := 5) sc_many_to.nd rfl (Or.inl rfl)) pgs_nil)))) (fun _ _ _ _ _ => pts_nil) (fun _ _ _ _ _ => (pe_callB (cMax rfl) (by rfl) T.f_max (by decide +kernel) (pa_cons pe_int (pa_cons (pe_op op_add (pe_op op_sub (pe_callB (cMin rfl) (by rfl) T.f_min (by decide +kernel) (pa_cons (pv 5) (pa_cons (pv 2) pa_nil))) (pv 4)) pe_int) pa_nil))))) pa_nil)))
      (pss_one (ps_ret (pe_op op_add (pv 3) (pe_callB (cr_sum rfl) (by rfl) T.f_sum (by decide +kernel) (pa_cons (pe_lc rfl (own := [("both", 6)]) sc_many_to.nd (pi_q (pv 1)) (blkOk_by (own := [("both", 6)]) (N := ["spans", "sums", "most", "ones", "low", "high", "both"]) (sc := defScope st_many_to) (by decide +kernel)) (fun _ _ _ _ _ => (pg_name (i := 6) sc_many_to.nd rfl (Or.inl rfl))) (fun _ _ _ _ _ => pts_nil) (fun _ _ _ _ _ => (pe_callB (cMin rfl) (by rfl) T.f_min (by decide +kernel) (pa_cons (pv 2) (pa_cons (pe_op op_fdivN (pv 6) pe_int) pa_nil))))) pa_nil)))))), ?_⟩
    walk_at "k"
    refine g_lcQ (a := l) (xs := ys) (G := H0) (fun R hR => ?_) (.inl hl) (fun _ _ z => z) fun L hL => ⟨fun j ac H' => Ex H0 H' ∧ ∃ ns : List Int, ac = ns.map V.int ∧ ns.length = j ∧ ∀ n ∈ ns, 1 ≤ n, fun H4 b4 e4 _ => ⟨e4, [], rfl, rfl, fun n hn => absurd hn (by simp)⟩, fun _ _ _ z => z.1, ?_, ?_⟩
    · walk_at "k"
      exact hR
    · rintro j ac y H4 hy hal hL4 ⟨e4, ns, rfl, hnl, hn⟩
      obtain ⟨p, hp, b', rfl, hbp⟩ := prd_get hq hy
      have hbp' := hb p (List.mem_of_getElem? hp)
      unfold Bn at hbp'
      refine g_lcs ?_
      walk_at "k"
      refine g_gtup (ex_t e4 hbp) rfl ?_
      walk_at "k"
      refine ⟨rfl, ?_⟩
      walk_at "k"
      refine lcT_of hal (by have := (List.getElem?_eq_some_iff.mp hp).1; omega) hL4 fun H5 b5 h5 => ⟨ex_but e4 hL b5, ns ++ [_], by rw [List.map_append]; rfl, by rw [List.length_append, hnl]; rfl, fun n hn' => ?_⟩
      rcases List.mem_append.mp hn' with hn' | hn'
      · exact hn n hn'
      · rw [List.mem_singleton.mp hn']
        have e : (if h < p.2 then h else p.2) = p.2 := by
          rw [if_neg (by omega)]
        rw [e, if_pos (by omega)]
        omega
    rintro ac H1 _ hL1 ⟨e1, ns, rfl, hnl, hn⟩
    walk_at "k"
    refine g_sum (sq_of hL1) ?_
    walk_at "k"
    refine g_lcQ (a := m) (xs := us.map V.int) (G := H0) (fun R hR => ?_) (.inl hm) e1 fun L hL => ⟨fun j ac H' => Ex H1 H' ∧ ∃ ns : List Int, ac = ns.map V.int ∧ ns.length = j ∧ ∀ n ∈ ns, 1 ≤ n, fun H4 b4 e4 _ => ⟨e4, [], rfl, rfl, fun n hn => absurd hn (by simp)⟩, fun _ _ _ z => e1.trans z.1, ?_, ?_⟩
    · walk_at "k"
      exact hR
    · rintro j ac y H4 hy hal hL4 ⟨e4, ns2, rfl, hnl2, hn2⟩
      rw [List.getElem?_map] at hy
      cases hu2 : us[j]? with
      | none => rw [hu2] at hy; cases hy
      | some u =>
        rw [hu2] at hy
        obtain rfl : V.int u = y := Option.some.inj hy
        have hu3 := hu u (List.mem_of_getElem? hu2)
        refine g_lcs ?_
        walk_at "k"
        refine ⟨rfl, ?_⟩
        walk_at "k"
        refine g_I ⟨by decide, by decide⟩ ?_
        walk_at "k"
        refine lcT_of hal (by have := (List.getElem?_eq_some_iff.mp hu2).1; omega) hL4 fun H5 b5 h5 => ⟨ex_but e4 hL b5, ns2 ++ [_], by rw [List.map_append]; rfl, by rw [List.length_append, hnl2]; rfl, fun n hn' => ?_⟩
        rcases List.mem_append.mp hn' with hn' | hn'
        · exact hn2 n hn'
        · rw [List.mem_singleton.mp hn', Int.fdiv_eq_ediv_of_nonneg _ (by decide)]
          split <;> omega
    · rintro ac H2 _ hL2 ⟨e2, ns2, rfl, hnl2, hn2⟩
      walk_at "k"
      refine g_sum (sq_of hL2) ?_
      walk_at "k"
      have s1 := sum_pos hn
      have s2 := sum_pos hn2
      have z1 : ns = [] ↔ qs = [] := by
        have hz := prd_len hq
        rw [← List.length_eq_zero_iff, ← List.length_eq_zero_iff]
        omega
      have z2 : ns2 = [] ↔ us = [] := by
        rw [List.length_map] at hnl2
        rw [← List.length_eq_zero_iff, ← List.length_eq_zero_iff]
        omega
      refine q H2 _ (e1.trans e2) (by omega) ?_
      rw [← z1, ← z2, ← s1.2, ← s2.2]
      omega
theorem sc_count_in : FnScope ["book", "heap", "is_gone", "spans", "sums"] ["book", "heap"] (defScope st_count_in) := ⟨rfl, rfl, rfl, by decide +kernel, rfl, by decide +kernel, by decide +kernel⟩
theorem ok_count_in (T : Txt K mg) : Kept P w K mg base CX0 3 "count_in" ["book", "heap"] (spCount K) := by
  have G_spans_in := ok_spans_in (P := P) (w := w) (base := base) T
  have G_many_to := ok_many_to (P := P) (w := w) (base := base) T
  refine kept0 T.d_count_in sc_count_in (fun vs H Q E h => ?_) (fun cdv A outer s H0 vs Q E hr h => ?_)
  · obtain ⟨b, R, h, rfl, _⟩ := h
    rfl
  · obtain ⟨b, R, h, rfl, hB, g, h1, h18, q⟩ := h
    refine ⟨_, (pss_cons (ps_asg (pe_c G_spans_in (hr.mono (by decide)) pass0 (pa_cons (pv 0) (pa_cons (pv 1) pa_nil))) (pg_tup rfl (pgs_cons (pg_name (i := 2) sc_count_in.nd rfl (Or.inl rfl)) (pgs_cons (pg_name (i := 3) sc_count_in.nd rfl (Or.inl rfl)) (pgs_cons (pg_name (i := 4) sc_count_in.nd rfl (Or.inl rfl)) pgs_nil)))))
      (pss_one (ps_ret (pe_op op_add (pe_callTy cInt (by rfl) T.f_int (by decide +kernel) (pa_cons (pv 2) pa_nil)) (pe_c G_many_to (hr.mono (by decide)) pass0 (pa_cons (pv 3) (pa_cons (pv 4) (pa_cons (pv 1) pa_nil)))))))), ?_⟩
    walk_at "k"
    refine ⟨b, R, h, rfl, hB, g, h1, h18, fun H1 t l m ys gone qs us e1 ht hl hq hm told => ?_⟩
    walk_at "k"
    refine g_gtup ht rfl ?_
    walk_at "k"
    refine ⟨l, m, ys, qs, us, h, rfl, hl, hq, hm, told.bn, fun u hu => ?_, told.len, told.len2, h1, h18, fun H2 n e2 hn hz => ?_⟩
    · obtain ⟨z1, r, hr', _, _, z4, _⟩ := (told.two u).mp hu
      have := (g.good r hr').lo0
      omega
    walk_at "k"
    refine q H2 _ (e1.trans e2) ?_
    have zg := told.gone
    have z1 : qs = [] ↔ ∀ o, 1 ≤ o → ¬ Can R h "one" (h - o) := by
      constructor
      · rintro rfl o ho hc
        obtain ⟨p, hp, _⟩ := (told.one o).mpr ⟨ho, hc⟩
        exact absurd hp (by simp)
      · intro hno
        cases hqq : qs with
        | nil => rfl
        | cons p qs' =>
          have hb := told.bn p (by rw [hqq]; exact List.mem_cons_self)
          unfold Bn at hb
          obtain ⟨y1, y2⟩ := (told.one p.1).mp ⟨p, by rw [hqq]; exact List.mem_cons_self, Int.le_refl _, hb.2.1⟩
          exact absurd y2 (hno _ y1)
    have z2 : us = [] ↔ ∀ b, 2 ≤ b → ¬ Can R h "two" (h - b) := by
      constructor
      · rintro rfl o ho hc
        exact absurd ((told.two o).mpr ⟨ho, hc⟩) (by simp)
      · intro hno
        cases hqq : us with
        | nil => rfl
        | cons u us' =>
          obtain ⟨y1, y2⟩ := (told.two u).mp (by rw [hqq]; exact List.mem_cons_self)
          exact absurd y2 (hno _ y1)
    unfold Ended
    rw [← zg, ← z1, ← z2, ← hz]
    cases gone <;> simp <;> omega
end
/-! ### heaps that an option comes from, heaps that end -/
/-- a rule that gives an option at all -/
def gives (h : Int) (r : Rl) : Bool := decide (h % r.mo = r.re) && decide (r.lo ≤ most r h) && (if r.lf = "none" then decide (most r h = h) else if r.lf = "one" then decide (r.lo < h) else decide (r.lo + 1 < h))
def endB (R : List Rl) (h : Int) : Bool := !R.any (gives h)
theorem ended_iff {R : List Rl} {h : Int} (g : ∀ r ∈ R, Good r) : Ended R h ↔ endB R h = true := by
  unfold endB
  rw [Bool.not_eq_true', Bool.eq_false_iff, Ne, List.any_eq_true]
  have key : ∀ r ∈ R, (gives h r = true ↔ (r.lf = "none" ∧ h % r.mo = r.re ∧ r.lo ≤ h ∧ h ≤ most r h) ∨ (∃ o, 1 ≤ o ∧ r.lf = "one" ∧ h % r.mo = r.re ∧ r.lo ≤ h - o ∧ h - o ≤ most r h) ∨ ∃ b, 2 ≤ b ∧ r.lf = "two" ∧ h % r.mo = r.re ∧ r.lo ≤ h - b ∧ h - b ≤ most r h) := fun r hr => by
    have gr := g r hr
    have hml := most_le r h
    unfold gives
    simp only [Bool.and_eq_true, decide_eq_true_eq]
    rcases gr.lf3 with e | e | e
    · rw [if_pos e, decide_eq_true_eq]
      constructor
      · rintro ⟨⟨a1, a2⟩, a3⟩
        exact .inl ⟨e, a1, by omega, by omega⟩
      · rintro (⟨_, a1, a2, a3⟩ | ⟨o, _, z, _⟩ | ⟨o, _, z, _⟩)
        · exact ⟨⟨a1, by omega⟩, by omega⟩
        · rw [e] at z
          exact absurd z.symm s_no1
        · rw [e] at z
          exact absurd z.symm s_no2
    · rw [if_neg (by rw [e]; exact s_no1), if_pos e, decide_eq_true_eq]
      constructor
      · rintro ⟨⟨a1, a2⟩, a3⟩
        by_cases c : most r h < h
        · exact .inr (.inl ⟨h - most r h, by omega, e, a1, by omega, by omega⟩)
        · exact .inr (.inl ⟨1, by omega, e, a1, by omega, by omega⟩)
      · rintro (⟨z, _⟩ | ⟨o, a0, _, a1, a2, a3⟩ | ⟨o, _, z, _⟩)
        · rw [e] at z
          exact absurd z s_no1
        · exact ⟨⟨a1, by omega⟩, by omega⟩
        · rw [e] at z
          exact absurd z.symm s_no3
    · rw [if_neg (by rw [e]; exact s_no2), if_neg (by rw [e]; exact s_no3), decide_eq_true_eq]
      constructor
      · rintro ⟨⟨a1, a2⟩, a3⟩
        by_cases c : most r h < h - 1
        · exact .inr (.inr ⟨h - most r h, by omega, e, a1, by omega, by omega⟩)
        · exact .inr (.inr ⟨2, by omega, e, a1, by omega, by omega⟩)
      · rintro (⟨z, _⟩ | ⟨o, _, z, _⟩ | ⟨o, a0, _, a1, a2, a3⟩)
        · rw [e] at z
          exact absurd z s_no2
        · rw [e] at z
          exact absurd z s_no3
        · exact ⟨⟨a1, by omega⟩, by omega⟩
  unfold Ended Can
  constructor
  · rintro ⟨a1, a2, a3⟩ ⟨r, hr, hg⟩
    rcases (key r hr).mp hg with z | ⟨o, z0, z⟩ | ⟨o, z0, z⟩
    · exact a1 ⟨r, hr, z⟩
    · exact a2 o z0 ⟨r, hr, z⟩
    · exact a3 o z0 ⟨r, hr, z⟩
  · intro hn
    refine ⟨fun ⟨r, hr, z⟩ => hn ⟨r, hr, (key r hr).mpr (.inl z)⟩, fun o ho ⟨r, hr, z⟩ => hn ⟨r, hr, (key r hr).mpr (.inr (.inl ⟨o, ho, z⟩))⟩, fun o ho ⟨r, hr, z⟩ => hn ⟨r, hr, (key r hr).mpr (.inr (.inr ⟨o, ho, z⟩))⟩⟩
/-- 1 .. m -/
def upTo (m : Nat) : List Int := (List.range m).map fun i : Nat => 1 + (i : Int)
def legB (R : List Rl) (o : List Int) (h : Int) : Bool := !(ways R h o).isEmpty
theorem legB_iff {R : List Rl} {o : List Int} {h : Int} : legB R o h = true ↔ Legal R h o := by
  unfold legB
  rw [Bool.not_eq_true', List.isEmpty_eq_false_iff]
  exact legal_ways.symm
def heapsOf (R : List Rl) (o : List Int) (m : Nat) : List Int := (upTo m).filter (legB R o)
def endsOf (R : List Rl) (m : Nat) : List Int := (upTo m).filter (endB R)
end Tk
namespace Tk
open PySem PySem.Spec PyProof.Rows L2
open Evl (Ex ex_l ex_t ex_rd sq_of st_of fresh_back)
local macro_rules | `(tactic| walk_at "g") => `(tactic| (repeat (first
  | (with_reducible refine g_seq ?_) | (with_reducible refine g_asg ?_) | (with_reducible refine g_name ?_) | (with_reducible refine g_sub ?_)
  | ((with_reducible refine' g_var ?e ?_); (case e => exact rfl)) | (with_reducible refine g_c ?_) | (with_reducible refine g_op ?_) | (with_reducible refine g_un ?_) | (with_reducible refine g_U ?_)
  | (with_reducible refine g_I0 ?_) | (with_reducible refine g_eqI ?_) | (with_reducible refine g_neI ?_) | (with_reducible refine g_eqS ?_) | (with_reducible refine g_neS ?_) | (with_reducible refine g_eqB ?_) | (with_reducible refine g_neB ?_)
  | (with_reducible refine g_test ?_) | (with_reducible refine g_tB ?_) | (with_reducible refine g_bl ?_) | (with_reducible refine g_and ?_) | (with_reducible refine g_or ?_) | (with_reducible refine g_not ?_)
  | (with_reducible refine g_andV ?_) | (with_reducible refine g_orV ?_) | (with_reducible refine g_notV ?_) | (with_reducible refine g_ifE ?_) | (with_reducible refine g_ifS ?_)
  | (with_reducible refine g_next ?_) | (with_reducible refine g_ret ?_) | (with_reducible refine g_drop ?_) | (with_reducible refine g_nil ?_) | (with_reducible refine g_cons ?_) | (with_reducible refine g_call ?_)
  | (with_reducible refine g_cb ?_) | (with_reducible refine g_bm ?_) | (with_reducible refine g_lst ?_) | (with_reducible refine g_tup ?_) | (with_reducible refine iteT ?_) | (with_reducible refine iteF ?_) | (with_reducible refine g_nt ?_) | (with_reducible refine g_nf ?_)
  | (with_reducible refine g_par ?_) | (with_reducible refine g_par3 ?_) | (with_reducible refine g_two ?_) | (with_reducible refine g_three ?_) | (with_reducible refine g_ckw ?_) | (with_reducible refine g_yes ?_) | (with_reducible refine g_chain ?_) | (with_reducible refine g_gnil ?_) | (with_reducible refine g_gcons ?_) | (with_reducible refine g_fld ?_) | (with_reducible refine g_sfld ?_) | (with_reducible refine g_isN ?_) | (with_reducible refine g_nint ?_) | (with_reducible refine g_nintB ?_) | (with_reducible refine g_max ?_) | (with_reducible refine g_min ?_))))
local macro_rules | `(tactic| walk_at "k") => `(tactic| (repeat (first
  | (with_reducible refine g_seq ?_) | (with_reducible refine g_asg ?_) | (with_reducible refine g_name ?_) | (with_reducible refine g_sub ?_)
  | ((with_reducible refine' g_var ?e ?_); (case e => exact rfl)) | (with_reducible refine g_c ?_) | (with_reducible refine g_op ?_) | (with_reducible refine g_un ?_) | (with_reducible refine g_U ?_)
  | (with_reducible refine g_I0 ?_) | (with_reducible refine g_eqI ?_) | (with_reducible refine g_neI ?_) | (with_reducible refine g_eqS ?_) | (with_reducible refine g_neS ?_) | (with_reducible refine g_eqB ?_) | (with_reducible refine g_neB ?_)
  | (with_reducible refine g_test ?_) | (with_reducible refine g_tB ?_) | (with_reducible refine g_bl ?_) | (with_reducible refine g_and ?_) | (with_reducible refine g_or ?_) | (with_reducible refine g_not ?_)
  | (with_reducible refine g_andV ?_) | (with_reducible refine g_orV ?_) | (with_reducible refine g_notV ?_) | (with_reducible refine g_ifE ?_)
  | (with_reducible refine g_next ?_) | (with_reducible refine g_ret ?_) | (with_reducible refine g_drop ?_) | (with_reducible refine g_nil ?_) | (with_reducible refine g_cons ?_) | (with_reducible refine g_call ?_)
  | (with_reducible refine g_cb ?_) | (with_reducible refine g_bm ?_) | (with_reducible refine g_lst ?_) | (with_reducible refine g_tup ?_) | (with_reducible refine iteT ?_) | (with_reducible refine iteF ?_) | (with_reducible refine g_nt ?_) | (with_reducible refine g_nf ?_)
  | (with_reducible refine g_par ?_) | (with_reducible refine g_par3 ?_) | (with_reducible refine g_two ?_) | (with_reducible refine g_three ?_) | (with_reducible refine g_ckw ?_) | (with_reducible refine g_yes ?_) | (with_reducible refine g_chain ?_) | (with_reducible refine g_gnil ?_) | (with_reducible refine g_gcons ?_) | (with_reducible refine g_fld ?_) | (with_reducible refine g_sfld ?_) | (with_reducible refine g_isN ?_) | (with_reducible refine g_nint ?_) | (with_reducible refine g_nintB ?_) | (with_reducible refine g_max ?_) | (with_reducible refine g_min ?_))))
theorem up_take {m i : Nat} (h : i < m) : (upTo m)[i]? = some (1 + (i : Int)) := by
  unfold upTo
  rw [List.getElem?_map, List.getElem?_range h]
  rfl
theorem up_len (m : Nat) : (upTo m).length = m := by
  unfold upTo
  rw [List.length_map, List.length_range]
/-- what ends, heaps_from ask of the greatest heap -/
def AskMost (K : PySem.W.Frag) (mv : V) (H : Hp) (E : XK) (ok : Nat → Prop) : Prop := (Plain K H mv ∧ isNu mv = false ∧ ErrE K "BadNumber" mv H E) ∨ ∃ m : Nat, mv = .int m ∧ m ≤ 1000 ∧ ok m
def spEnds (K : PySem.W.Frag) : Sp := fun vs H Q E => ∃ (b mv : V), vs = [b, mv] ∧ ((NoBook H b ∧ ErrE K "BadBook" b H E) ∨ ∃ R, BookAt K H b R ∧ Goods R ∧
  AskMost K mv H E fun m => ∀ H' p, Ex H H' → H p = none → H' p = some (.lst ((endsOf R m).map V.int)) → Q (.ref p) H')
/-- an option not in order -/
def Wild (o : List Int) : Prop := ∃ i j, o = [i, j] ∧ j < i
def spFrom (K : PySem.W.Frag) : Sp := fun vs H Q E => ∃ (b v mv : V), vs = [b, v, mv] ∧ ((NoBook H b ∧ ErrE K "BadBook" b H E) ∨ ∃ R, BookAt K H b R ∧ Goods R ∧ ((NoOpt K H v ∧ ErrE K "BadOption" v H E) ∨ ∃ o, OptAt K H v o ∧ (Wild o → ErrE K "BadOption" v H E) ∧
  (¬ Wild o → AskMost K mv H E fun m => ∀ H' p, Ex H H' → H p = none → H' p = some (.lst ((heapsOf R o m).map V.int)) → Q (.ref p) H')))
theorem g_lcA {ta : TA} {g : TG} {tt : TT} {te : TE} {vs : List Nat} {σ : L2.St} {H : Hp} {Q : VK} (h : ∀ R : List V → Hp → Prop, ta σ H R) : tLc (iRng2 ta) g tt te vs σ H Q := h _
section
variable {P : Program} {w : World} {K : PySem.W.Frag} {mg : Str → Option Value} {base : Heap}
theorem sc_ends : FnScope ["book", "most", "heap"] ["book", "most"] (defScope st_ends) := ⟨rfl, rfl, rfl, by decide +kernel, rfl, by decide +kernel, by decide +kernel⟩
theorem ok_ends (T : Txt K mg) : Kept P w K mg base (L2.CX P w) 5 "ends" ["book", "most"] (spEnds K) := by
  have G_checked_book := ok_checked_book (P := P) (w := w) (base := base) T
  have G_checked_most := ok_checked_most (P := P) (w := w) (base := base) T
  have G_count_in := ok_count_in (P := P) (w := w) (base := base) T
  refine keptX T.d_ends sc_ends (fun vs H Q E h => ?_) (fun cdv A outer s H0 vs Q E hr h => ?_)
  · obtain ⟨b, mv, rfl, _⟩ := h
    rfl
  · obtain ⟨b, mv, rfl, hA⟩ := h
    refine ⟨_, (pss_cons (ps_expr (pe_c G_checked_book (hr.mono (by decide)) (passes_call (takes_of rfl rfl rfl rfl) (fun _ _ _ _ h => h)) (pa_cons (pv 0) pa_nil)))
      (pss_one (ps_ret (pe_lc rfl (own := [("heap", 2)]) sc_ends.nd (pi_range2 (by rfl) T.f_range (pa_cons pe_int (pa_cons (pe_op op_add (pe_c G_checked_most (hr.mono (by decide)) (passes_call (takes_of rfl rfl rfl rfl) (fun _ _ _ _ h => h)) (pa_cons (pv 1) pa_nil)) pe_int) pa_nil))) (blkOk_by (own := [("heap", 2)]) (N := ["book", "most", "heap"]) (sc := defScope st_ends) (by decide +kernel)) (fun _ _ _ _ _ => (pg_name (i := 2) sc_ends.nd rfl (Or.inl rfl))) (fun _ _ _ _ _ => (pts_one (pt_cmpR op_eq (pe_c G_count_in (hr.mono (by decide)) pass0 (pa_cons (pv 0) (pa_cons (pv 2) pa_nil))) pe_int (nomark _)))) (fun _ _ _ _ _ => (pv 2)))))), ?_⟩
    walk_at "k"
    rcases hA with ⟨hno, hE⟩ | ⟨R, hB, g, hA⟩
    · exact ⟨b, rfl, .inr ⟨hno.1, hno.2, hE.err⟩⟩
    · have hB' := hB
      obtain ⟨b0, dx, t, fs, ys, rfl, hb, _⟩ := hB'
      refine ⟨.ref b0, rfl, .inl ⟨b0, dx, fs, rfl, hb, ?_⟩⟩
      walk_at "k"
      rcases hA with ⟨hp, hbad, hE⟩ | ⟨m, rfl, hm, q⟩
      · refine g_lcA fun R => ?_
        walk_at "k"
        exact ⟨mv, rfl, hp, fun z => (by rw [hbad] at z; cases z), fun _ => hE.err⟩
      · refine g_lcR2 (lo := 1) (hi := (m : Int) + 1) (fun R hR => ?_) ⟨by omega, by omega, by omega, by omega⟩ fun L hL => ⟨fun i ac H' => Ex H0 H' ∧ ac = (((upTo m).take i).filter (endB R)).map V.int, fun H4 b4 e4 _ => ⟨e4, by rw [List.take_zero]; rfl⟩, ?_, ?_⟩
        · walk_at "k"
          refine ⟨_, rfl, .inl (.inr (.inr (.inl ⟨_, rfl⟩))), fun _ => ?_, fun z => ?_⟩
          · walk_at "k"
            exact hR
          · have : isNu (.int (m : Int)) = true := decide_eq_true (by omega)
            rw [this] at z
            cases z
        · rintro i ac H1 hi hal hL1 ⟨e1, rfl⟩
          have hi2 : i < m := by omega
          have ht := take_snoc (up_take hi2)
          refine g_lcs ?_
          walk_at "k"
          refine ⟨rfl, ?_⟩
          walk_at "k"
          refine ⟨_, R, _, rfl, hB.ex e1, g, by omega, by omega, fun H2 n e2 hn => ?_⟩
          walk_at "k"
          have hl2 := e2 _ _ hL1
          have hz := hn.trans (ended_iff g.good)
          by_cases c : n = 0
          · rw [decide_eq_true c]
            walk_at "k"
            refine lcT_of hal (by omega) hl2 fun H3 b3 h3 => ⟨ex_but (e1.trans e2) hL b3, ?_⟩
            rw [ht, List.filter_append, List.filter_cons_of_pos (hz.mp c), List.filter_nil, List.map_append]
            rfl
          · rw [decide_eq_false c]
            walk_at "k"
            refine ⟨_, by omega, hl2, e1.trans e2, ?_⟩
            rw [ht, List.filter_append, List.filter_cons_of_neg (fun z => c (hz.mpr z)), List.filter_nil, List.append_nil]
        · rintro ac H1 _ hL1 ⟨e1, rfl⟩
          walk_at "k"
          refine q H1 L e1 hL ?_
          have e : ((m : Int) + 1 - 1).toNat = m := by omega
          rw [e, List.take_of_length_le (by rw [up_len]; exact Nat.le_refl _)] at hL1
          exact hL1
theorem sc_heaps_from : FnScope ["book", "option", "most", "heap", "one"] ["book", "option", "most"] (defScope st_heaps_from) := ⟨rfl, rfl, rfl, by decide +kernel, rfl, by decide +kernel, by decide +kernel⟩
theorem ok_heaps_from (T : Txt K mg) : Kept P w K mg base (L2.CX P w) 5 "heaps_from" ["book", "option", "most"] (spFrom K) := by
  have G_checked_book := ok_checked_book (P := P) (w := w) (base := base) T
  have G_checked_most := ok_checked_most (P := P) (w := w) (base := base) T
  have G_option_in := ok_option_in (P := P) (w := w) (base := base) T
  have G_is_list := ok_is_list (P := P) (w := w) (base := base) T
  have G_is_heap := ok_is_heap (P := P) (w := w) (base := base) T
  refine keptX T.d_heaps_from sc_heaps_from (fun vs H Q E h => ?_) (fun cdv A outer s H0 vs Q E hr h => ?_)
  · obtain ⟨b, v, mv, rfl, _⟩ := h
    rfl
  · obtain ⟨b, v, mv, rfl, hA⟩ := h
    refine ⟨_, (pss_cons (ps_expr (pe_c G_checked_book (hr.mono (by decide)) (passes_call (takes_of rfl rfl rfl rfl) (fun _ _ _ _ h => h)) (pa_cons (pv 0) pa_nil)))
      (pss_cons (ps_if (PW.pt (pw_or (pt_not (pt_val (pe_c G_is_list (hr.mono (by decide)) pass0 (pa_cons (pv 1) pa_nil)))) (pw_or (pt_cmpR op_gt (pe_callB (cLenK K) (by rfl) T.f_len (by decide +kernel) (pa_cons (pv 1) pa_nil)) pe_int (nomark _)) (pw_or1 (pt_not (pt_val (pe_callB (cr_all rfl) (by rfl) T.f_all (by decide +kernel) (pa_cons (pe_lc rfl (own := [("one", 4)]) sc_heaps_from.nd (pi_q (pv 1)) (blkOk_by (own := [("one", 4)]) (N := ["book", "option", "most", "heap", "one"]) (sc := defScope st_heaps_from) (by decide +kernel)) (fun _ _ _ _ _ => (pg_name (i := 4) sc_heaps_from.nd rfl (Or.inl rfl))) (fun _ _ _ _ _ => pts_nil) (fun _ _ _ _ _ => (pe_c G_is_heap (hr.mono (by decide)) pass0 (pa_cons (pv 4) pa_nil)))) pa_nil)))))))) (pss_one (ps_err (k := 0) T.e_BadOption ok_BadOption_init (hr.mono (by decide)) rfl (takes_of rfl rfl rfl rfl) (pv 1))) pss_nil)
      (pss_cons (ps_if (PW.pt (pw_and (pt_cmpR op_eq (pe_callB (cLenK K) (by rfl) T.f_len (by decide +kernel) (pa_cons (pv 1) pa_nil)) pe_int (nomark _)) (pw_and1 (pt_cmpR op_gt (pe_ix (ixQ K) (pv 1) pe_int (fun _ _ => rfl)) (pe_ix (ixQ K) (pv 1) pe_int (fun _ _ => rfl)) (nomark _))))) (pss_one (ps_err (k := 0) T.e_BadOption ok_BadOption_init (hr.mono (by decide)) rfl (takes_of rfl rfl rfl rfl) (pv 1))) pss_nil)
      (pss_one (ps_ret (pe_lc rfl (own := [("heap", 3)]) sc_heaps_from.nd (pi_range2 (by rfl) T.f_range (pa_cons pe_int (pa_cons (pe_op op_add (pe_c G_checked_most (hr.mono (by decide)) (passes_call (takes_of rfl rfl rfl rfl) (fun _ _ _ _ h => h)) (pa_cons (pv 2) pa_nil)) pe_int) pa_nil))) (blkOk_by (own := [("heap", 3)]) (N := ["book", "option", "most", "heap", "one"]) (sc := defScope st_heaps_from) (by decide +kernel)) (fun _ _ _ _ _ => (pg_name (i := 3) sc_heaps_from.nd rfl (Or.inl rfl))) (fun _ _ _ _ _ => (pts_one (pt_cmpR op_notN (pe_c G_option_in (hr.mono (by decide)) pass0 (pa_cons (pv 0) (pa_cons (pv 3) (pa_cons (pv 1) pa_nil)))) pe_non (nomark _)))) (fun _ _ _ _ _ => (pv 3)))))))), ?_⟩
    walk_at "k"
    rcases hA with ⟨hno, hE⟩ | ⟨R, hB, g, hA⟩
    · exact ⟨b, rfl, .inr ⟨hno.1, hno.2, hE.err⟩⟩
    · have hB' := hB
      obtain ⟨b0, dx, t, fs, ys, rfl, hb, _⟩ := hB'
      refine ⟨.ref b0, rfl, .inl ⟨b0, dx, fs, rfl, hb, ?_⟩⟩
      walk_at "k"
      with_reducible refine g_ifS ?_
      walk_at "k"
      rcases hA with ⟨hno | ⟨a, xs, rfl, hs, hpl, hbad⟩, hE⟩ | ⟨o, ⟨⟨a, rfl, hs⟩, hlen, hin⟩, hA1, hA2⟩
      · refine ⟨v, false, rfl, .inr ⟨rfl, hno⟩, fun H1 e1 => ?_⟩
        walk_at "k"
        refine g_err ?_
        walk_at "k"
        exact errRaw T.e_BadOption (hE.ex e1).err
      · refine ⟨.ref a, true, rfl, .inl ⟨rfl, a, xs, rfl, hs⟩, fun H1 e1 => ?_⟩
        walk_at "k"
        replace hs := hs.ex e1
        replace hpl := fun x hx => (hpl x hx).ex e1
        refine g_len hs ?_
        walk_at "k"
        by_cases hlen : xs.length ≤ 2
        · rw [decide_eq_false (by omega)]
          walk_at "k"
          refine g_lcQ (a := a) (xs := xs) (G := H1) (fun R hR => ?_) hs (fun _ _ z => z) fun L hL => ⟨fun j ac H' => Ex H1 H' ∧ ac = (xs.take j).map fun x => V.bl (isHp x), fun H4 b4 e4 _ => ⟨e4, by rw [List.take_zero]; rfl⟩, fun _ _ _ z => z.1, ?_, ?_⟩
          · walk_at "k"
            exact hR
          · rintro j ac y H4 hy hl hL4 ⟨e4, rfl⟩
            refine g_lcs ?_
            walk_at "k"
            refine ⟨rfl, ?_⟩
            walk_at "k"
            refine ⟨y, rfl, (hpl y (List.mem_of_getElem? hy)).ex e4, ?_⟩
            refine lcT_of hl (by have := (List.getElem?_eq_some_iff.mp hy).1; omega) hL4 fun H5 b5 h5 => ⟨ex_but e4 hL b5, ?_⟩
            rw [take_snoc hy, List.map_append]
            rfl
          rintro ac H2 hal hL2 ⟨e2, rfl⟩
          rw [List.take_length] at hL2
          walk_at "k"
          refine g_all (bs := xs.map isHp) (sq_of (by rw [List.map_map]; exact hL2)) ?_
          walk_at "k"
          have hf : (xs.map isHp).all id = false := by
            cases z : (xs.map isHp).all id with
            | false => rfl
            | true => exact absurd ⟨hlen, fun x hx => List.all_eq_true.mp z _ (List.mem_map_of_mem hx)⟩ hbad
          rw [hf]
          walk_at "k"
          refine g_err ?_
          walk_at "k"
          exact errRaw T.e_BadOption (hE.ex (e1.trans e2)).err
        · rw [decide_eq_true (by omega)]
          walk_at "k"
          refine g_err ?_
          walk_at "k"
          exact errRaw T.e_BadOption (hE.ex e1).err
      · refine ⟨.ref a, true, rfl, .inl ⟨rfl, a, _, rfl, hs⟩, fun H1 e1 => ?_⟩
        walk_at "k"
        replace hs := hs.ex e1
        refine g_len hs ?_
        rw [List.length_map]
        walk_at "k"
        rw [decide_eq_false (by omega)]
        walk_at "k"
        obtain ⟨xs, hxs⟩ : ∃ xs, xs = o.map V.int := ⟨_, rfl⟩
        rw [← hxs] at hs
        have hxl : xs.length = o.length := by rw [hxs, List.length_map]
        have hpl : ∀ x ∈ xs, Plain K H1 x := fun x hx => by
          rw [hxs] at hx
          obtain ⟨i, _, rfl⟩ := List.mem_map.mp hx
          exact .inl (.inr (.inr (.inl ⟨i, rfl⟩)))
        refine g_lcQ (a := a) (xs := xs) (G := H1) (fun R hR => ?_) hs (fun _ _ z => z) fun L hL => ⟨fun j ac H' => Ex H1 H' ∧ ac = (xs.take j).map fun x => V.bl (isHp x), fun H4 b4 e4 _ => ⟨e4, by rw [List.take_zero]; rfl⟩, fun _ _ _ z => z.1, ?_, ?_⟩
        · walk_at "k"
          exact hR
        · rintro j ac y H4 hy hl hL4 ⟨e4, rfl⟩
          refine g_lcs ?_
          walk_at "k"
          refine ⟨rfl, ?_⟩
          walk_at "k"
          refine ⟨y, rfl, (hpl y (List.mem_of_getElem? hy)).ex e4, ?_⟩
          refine lcT_of hl (by have := (List.getElem?_eq_some_iff.mp hy).1; omega) hL4 fun H5 b5 h5 => ⟨ex_but e4 hL b5, ?_⟩
          rw [take_snoc hy, List.map_append]
          rfl
        rintro ac H2 hal hL2 ⟨e2, rfl⟩
        rw [List.take_length] at hL2
        walk_at "k"
        refine g_all (bs := xs.map isHp) (sq_of (by rw [List.map_map]; exact hL2)) ?_
        walk_at "k"
        have hf : (xs.map isHp).all id = true := by
          rw [hxs, List.map_map]
          refine List.all_eq_true.mpr fun b hb => ?_
          obtain ⟨i, hi, rfl⟩ := List.mem_map.mp hb
          exact hp_int (hin i hi)
        rw [hf]
        walk_at "k"
        replace hs := hs.ex e2
        rw [hxs] at hs
        have e02 := e1.trans e2
        with_reducible refine g_ifS ?_
        walk_at "k"
        refine g_len hs ?_
        rw [List.length_map]
        walk_at "k"
        rcases o with _ | ⟨i0, _ | ⟨j0, _ | ⟨k0, o0⟩⟩⟩
        · rw [show (decide ((([] : List Int).length : Int) = 2)) = false from rfl]
          walk_at "k"
          have hnw : ¬ Wild [] := fun ⟨_, _, z, _⟩ => (by cases z)
          obtain ⟨o, ho⟩ : ∃ o, o = ([] : List Int) := ⟨_, rfl⟩
          rw [← ho] at hs hlen hin hnw hA2
          rcases hA2 hnw with ⟨hp, hbad, hE⟩ | ⟨m, rfl, hm, q⟩
          · refine g_lcA fun R => ?_
            walk_at "k"
            exact ⟨mv, rfl, hp.ex e02, fun z => (by rw [hbad] at z; cases z), fun _ => (hE.ex e02).err⟩
          · refine g_lcR2 (lo := 1) (hi := (m : Int) + 1) (fun R hR => ?_) ⟨by omega, by omega, by omega, by omega⟩ fun L hL => ⟨fun i ac H' => Ex H2 H' ∧ ac = (((upTo m).take i).filter (legB R o)).map V.int, fun H4 b4 e4 _ => ⟨e4, by rw [List.take_zero]; rfl⟩, ?_, ?_⟩
            · walk_at "k"
              refine ⟨_, rfl, .inl (.inr (.inr (.inl ⟨_, rfl⟩))), fun _ => ?_, fun z => ?_⟩
              · walk_at "k"
                exact hR
              · have : isNu (.int (m : Int)) = true := decide_eq_true (by omega)
                rw [this] at z
                cases z
            · rintro i ac H3 hi hal hL3 ⟨e3, rfl⟩
              have hi2 : i < m := by omega
              have ht := take_snoc (up_take hi2)
              refine g_lcs ?_
              walk_at "k"
              refine ⟨rfl, ?_⟩
              walk_at "k"
              refine ⟨_, _, R, _, rfl, hB.ex (e02.trans e3), g, by omega, by omega, .inr ⟨o, ⟨⟨a, rfl, hs.ex e3⟩, hlen, hin⟩, fun hl H4 p o' e4 np hp _ _ => ?_, fun hl H4 e4 => ?_⟩⟩
              · walk_at "k"
                rw [show decide (V.ref p = V.non) = false from rfl]
                walk_at "k"
                refine lcT_of hal (by omega) (e4 _ _ hL3) fun H5 b5 h5 => ⟨ex_but (e3.trans e4) hL b5, ?_⟩
                have hw : legB R o (1 + (i : Int)) = true := legB_iff.mpr hl
                rw [ht, List.filter_append, List.filter_cons_of_pos hw, List.filter_nil, List.map_append]
                rfl
              · walk_at "k"
                rw [show decide (V.non = V.non) = true from rfl]
                walk_at "k"
                refine ⟨_, by omega, e4 _ _ hL3, e3.trans e4, ?_⟩
                have hw : ¬ legB R o (1 + (i : Int)) = true := fun z => hl (legB_iff.mp z)
                rw [ht, List.filter_append, List.filter_cons_of_neg hw, List.filter_nil, List.append_nil]
            · rintro ac H3 _ hL3 ⟨e3, rfl⟩
              walk_at "k"
              refine q H3 L (e02.trans e3) (none_ex e02 hL) ?_
              have e : ((m : Int) + 1 - 1).toNat = m := by omega
              rw [e, List.take_of_length_le (by rw [up_len]; exact Nat.le_refl _)] at hL3
              exact hL3
        · rw [show (decide ((([i0] : List Int).length : Int) = 2)) = false from rfl]
          walk_at "k"
          have hnw : ¬ Wild [i0] := fun ⟨_, _, z, _⟩ => (by cases z)
          obtain ⟨o, ho⟩ : ∃ o, o = [i0] := ⟨_, rfl⟩
          rw [← ho] at hs hlen hin hnw hA2
          rcases hA2 hnw with ⟨hp, hbad, hE⟩ | ⟨m, rfl, hm, q⟩
          · refine g_lcA fun R => ?_
            walk_at "k"
            exact ⟨mv, rfl, hp.ex e02, fun z => (by rw [hbad] at z; cases z), fun _ => (hE.ex e02).err⟩
          · refine g_lcR2 (lo := 1) (hi := (m : Int) + 1) (fun R hR => ?_) ⟨by omega, by omega, by omega, by omega⟩ fun L hL => ⟨fun i ac H' => Ex H2 H' ∧ ac = (((upTo m).take i).filter (legB R o)).map V.int, fun H4 b4 e4 _ => ⟨e4, by rw [List.take_zero]; rfl⟩, ?_, ?_⟩
            · walk_at "k"
              refine ⟨_, rfl, .inl (.inr (.inr (.inl ⟨_, rfl⟩))), fun _ => ?_, fun z => ?_⟩
              · walk_at "k"
                exact hR
              · have : isNu (.int (m : Int)) = true := decide_eq_true (by omega)
                rw [this] at z
                cases z
            · rintro i ac H3 hi hal hL3 ⟨e3, rfl⟩
              have hi2 : i < m := by omega
              have ht := take_snoc (up_take hi2)
              refine g_lcs ?_
              walk_at "k"
              refine ⟨rfl, ?_⟩
              walk_at "k"
              refine ⟨_, _, R, _, rfl, hB.ex (e02.trans e3), g, by omega, by omega, .inr ⟨o, ⟨⟨a, rfl, hs.ex e3⟩, hlen, hin⟩, fun hl H4 p o' e4 np hp _ _ => ?_, fun hl H4 e4 => ?_⟩⟩
              · walk_at "k"
                rw [show decide (V.ref p = V.non) = false from rfl]
                walk_at "k"
                refine lcT_of hal (by omega) (e4 _ _ hL3) fun H5 b5 h5 => ⟨ex_but (e3.trans e4) hL b5, ?_⟩
                have hw : legB R o (1 + (i : Int)) = true := legB_iff.mpr hl
                rw [ht, List.filter_append, List.filter_cons_of_pos hw, List.filter_nil, List.map_append]
                rfl
              · walk_at "k"
                rw [show decide (V.non = V.non) = true from rfl]
                walk_at "k"
                refine ⟨_, by omega, e4 _ _ hL3, e3.trans e4, ?_⟩
                have hw : ¬ legB R o (1 + (i : Int)) = true := fun z => hl (legB_iff.mp z)
                rw [ht, List.filter_append, List.filter_cons_of_neg hw, List.filter_nil, List.append_nil]
            · rintro ac H3 _ hL3 ⟨e3, rfl⟩
              walk_at "k"
              refine q H3 L (e02.trans e3) (none_ex e02 hL) ?_
              have e : ((m : Int) + 1 - 1).toNat = m := by omega
              rw [e, List.take_of_length_le (by rw [up_len]; exact Nat.le_refl _)] at hL3
              exact hL3
        · rw [show (decide ((([i0, j0] : List Int).length : Int) = 2)) = true from rfl]
          walk_at "k"
          refine g_ixQ hs rfl ?_
          walk_at "k"
          refine g_ixQ hs rfl ?_
          walk_at "k"
          by_cases c : j0 < i0
          · rw [decide_eq_true c]
            walk_at "k"
            refine g_err ?_
            walk_at "k"
            exact errRaw T.e_BadOption ((hA1 ⟨i0, j0, rfl, c⟩).ex e02).err
          · rw [decide_eq_false c]
            walk_at "k"
            have hnw : ¬ Wild [i0, j0] := fun ⟨_, _, z, y⟩ => (by cases z; exact c y)
            obtain ⟨o, ho⟩ : ∃ o, o = [i0, j0] := ⟨_, rfl⟩
            rw [← ho] at hs hlen hin hnw hA2
            rcases hA2 hnw with ⟨hp, hbad, hE⟩ | ⟨m, rfl, hm, q⟩
            · refine g_lcA fun R => ?_
              walk_at "k"
              exact ⟨mv, rfl, hp.ex e02, fun z => (by rw [hbad] at z; cases z), fun _ => (hE.ex e02).err⟩
            · refine g_lcR2 (lo := 1) (hi := (m : Int) + 1) (fun R hR => ?_) ⟨by omega, by omega, by omega, by omega⟩ fun L hL => ⟨fun i ac H' => Ex H2 H' ∧ ac = (((upTo m).take i).filter (legB R o)).map V.int, fun H4 b4 e4 _ => ⟨e4, by rw [List.take_zero]; rfl⟩, ?_, ?_⟩
              · walk_at "k"
                refine ⟨_, rfl, .inl (.inr (.inr (.inl ⟨_, rfl⟩))), fun _ => ?_, fun z => ?_⟩
                · walk_at "k"
                  exact hR
                · have : isNu (.int (m : Int)) = true := decide_eq_true (by omega)
                  rw [this] at z
                  cases z
              · rintro i ac H3 hi hal hL3 ⟨e3, rfl⟩
                have hi2 : i < m := by omega
                have ht := take_snoc (up_take hi2)
                refine g_lcs ?_
                walk_at "k"
                refine ⟨rfl, ?_⟩
                walk_at "k"
                refine ⟨_, _, R, _, rfl, hB.ex (e02.trans e3), g, by omega, by omega, .inr ⟨o, ⟨⟨a, rfl, hs.ex e3⟩, hlen, hin⟩, fun hl H4 p o' e4 np hp _ _ => ?_, fun hl H4 e4 => ?_⟩⟩
                · walk_at "k"
                  rw [show decide (V.ref p = V.non) = false from rfl]
                  walk_at "k"
                  refine lcT_of hal (by omega) (e4 _ _ hL3) fun H5 b5 h5 => ⟨ex_but (e3.trans e4) hL b5, ?_⟩
                  have hw : legB R o (1 + (i : Int)) = true := legB_iff.mpr hl
                  rw [ht, List.filter_append, List.filter_cons_of_pos hw, List.filter_nil, List.map_append]
                  rfl
                · walk_at "k"
                  rw [show decide (V.non = V.non) = true from rfl]
                  walk_at "k"
                  refine ⟨_, by omega, e4 _ _ hL3, e3.trans e4, ?_⟩
                  have hw : ¬ legB R o (1 + (i : Int)) = true := fun z => hl (legB_iff.mp z)
                  rw [ht, List.filter_append, List.filter_cons_of_neg hw, List.filter_nil, List.append_nil]
              · rintro ac H3 _ hL3 ⟨e3, rfl⟩
                walk_at "k"
                refine q H3 L (e02.trans e3) (none_ex e02 hL) ?_
                have e : ((m : Int) + 1 - 1).toNat = m := by omega
                rw [e, List.take_of_length_le (by rw [up_len]; exact Nat.le_refl _)] at hL3
                exact hL3
        · simp only [List.length_cons] at hlen
          omega
end
end Tk
namespace Tk
open PySem PySem.Spec PyProof.Rows L2
open Evl (Ex ex_l ex_t ex_rd sq_of st_of fresh_back)
local macro_rules | `(tactic| walk_at "g") => `(tactic| (repeat (first
  | (with_reducible refine g_seq ?_) | (with_reducible refine g_asg ?_) | (with_reducible refine g_name ?_) | (with_reducible refine g_sub ?_)
  | ((with_reducible refine' g_var ?e ?_); (case e => exact rfl)) | (with_reducible refine g_c ?_) | (with_reducible refine g_op ?_) | (with_reducible refine g_un ?_) | (with_reducible refine g_U ?_)
  | (with_reducible refine g_I0 ?_) | (with_reducible refine g_eqI ?_) | (with_reducible refine g_neI ?_) | (with_reducible refine g_eqS ?_) | (with_reducible refine g_neS ?_) | (with_reducible refine g_eqB ?_) | (with_reducible refine g_neB ?_)
  | (with_reducible refine g_test ?_) | (with_reducible refine g_tB ?_) | (with_reducible refine g_bl ?_) | (with_reducible refine g_and ?_) | (with_reducible refine g_or ?_) | (with_reducible refine g_not ?_)
  | (with_reducible refine g_andV ?_) | (with_reducible refine g_orV ?_) | (with_reducible refine g_notV ?_) | (with_reducible refine g_ifE ?_) | (with_reducible refine g_ifS ?_)
  | (with_reducible refine g_next ?_) | (with_reducible refine g_ret ?_) | (with_reducible refine g_drop ?_) | (with_reducible refine g_nil ?_) | (with_reducible refine g_cons ?_) | (with_reducible refine g_call ?_)
  | (with_reducible refine g_cb ?_) | (with_reducible refine g_bm ?_) | (with_reducible refine g_lst ?_) | (with_reducible refine g_tup ?_) | (with_reducible refine iteT ?_) | (with_reducible refine iteF ?_) | (with_reducible refine g_nt ?_) | (with_reducible refine g_nf ?_)
  | (with_reducible refine g_par ?_) | (with_reducible refine g_par3 ?_) | (with_reducible refine g_two ?_) | (with_reducible refine g_three ?_) | (with_reducible refine g_ckw ?_) | (with_reducible refine g_yes ?_) | (with_reducible refine g_chain ?_) | (with_reducible refine g_gnil ?_) | (with_reducible refine g_gcons ?_) | (with_reducible refine g_fld ?_) | (with_reducible refine g_sfld ?_) | (with_reducible refine g_isN ?_) | (with_reducible refine g_nint ?_) | (with_reducible refine g_nintB ?_) | (with_reducible refine g_max ?_) | (with_reducible refine g_min ?_))))
local macro_rules | `(tactic| walk_at "k") => `(tactic| (repeat (first
  | (with_reducible refine g_seq ?_) | (with_reducible refine g_asg ?_) | (with_reducible refine g_name ?_) | (with_reducible refine g_sub ?_)
  | ((with_reducible refine' g_var ?e ?_); (case e => exact rfl)) | (with_reducible refine g_c ?_) | (with_reducible refine g_op ?_) | (with_reducible refine g_un ?_) | (with_reducible refine g_U ?_)
  | (with_reducible refine g_I0 ?_) | (with_reducible refine g_eqI ?_) | (with_reducible refine g_neI ?_) | (with_reducible refine g_eqS ?_) | (with_reducible refine g_neS ?_) | (with_reducible refine g_eqB ?_) | (with_reducible refine g_neB ?_)
  | (with_reducible refine g_test ?_) | (with_reducible refine g_tB ?_) | (with_reducible refine g_bl ?_) | (with_reducible refine g_and ?_) | (with_reducible refine g_or ?_) | (with_reducible refine g_not ?_)
  | (with_reducible refine g_andV ?_) | (with_reducible refine g_orV ?_) | (with_reducible refine g_notV ?_) | (with_reducible refine g_ifE ?_)
  | (with_reducible refine g_next ?_) | (with_reducible refine g_ret ?_) | (with_reducible refine g_drop ?_) | (with_reducible refine g_nil ?_) | (with_reducible refine g_cons ?_) | (with_reducible refine g_call ?_)
  | (with_reducible refine g_cb ?_) | (with_reducible refine g_bm ?_) | (with_reducible refine g_lst ?_) | (with_reducible refine g_tup ?_) | (with_reducible refine iteT ?_) | (with_reducible refine iteF ?_) | (with_reducible refine g_nt ?_) | (with_reducible refine g_nf ?_)
  | (with_reducible refine g_par ?_) | (with_reducible refine g_par3 ?_) | (with_reducible refine g_two ?_) | (with_reducible refine g_three ?_) | (with_reducible refine g_ckw ?_) | (with_reducible refine g_yes ?_) | (with_reducible refine g_chain ?_) | (with_reducible refine g_gnil ?_) | (with_reducible refine g_gcons ?_) | (with_reducible refine g_fld ?_) | (with_reducible refine g_sfld ?_) | (with_reducible refine g_isN ?_) | (with_reducible refine g_nint ?_) | (with_reducible refine g_nintB ?_) | (with_reducible refine g_max ?_) | (with_reducible refine g_min ?_))))
/-! ### the stream -/
/-- all but the stream -/
def hid (a c : Addr) (H : Hp) : Hp := fun b => if b = a ∨ b = c then none else H b
theorem hid_ex {a c : Addr} {H : Hp} : Ex (hid a c H) H := fun b o h => by
  unfold hid at h
  by_cases z : b = a ∨ b = c
  · rw [if_pos z] at h
    cases h
  · rw [if_neg z] at h
    exact h
theorem hid_of {a c b : Addr} {H : Hp} {o : HO} (h : H b = some o) (h1 : b ≠ a) (h2 : b ≠ c) : hid a c H b = some o := by
  unfold hid
  rw [if_neg (by rintro (z | z); exact h1 z; exact h2 z)]
  exact h
theorem fr_hid {a c : Addr} {n : Nat} {H : Hp} (s : StA H a c n) : Fr (hid a c H) H a c n := ⟨hid_ex, if_pos (.inl rfl), if_pos (.inr rfl), s⟩
theorem StA.ls {H : Hp} {a c : Addr} {n : Nat} (s : StA H a c n) : LsS [a, c] H := fun b hb => by
  obtain ⟨_, r, k, m, cs, h1, h2, _⟩ := s
  rcases List.mem_cons.mp hb with rfl | hb
  · exact ⟨_, h1⟩
  · rw [List.mem_singleton.mp hb]
    exact ⟨_, h2⟩
theorem StA.mono {H : Hp} {a c : Addr} {n m : Nat} (s : StA H a c n) (h : n ≤ m) : StA H a c m := by
  obtain ⟨z, r, k, mm, cs, h1, h2, h3, h4, h5, h6⟩ := s
  exact ⟨z, r, k, mm, cs, h1, h2, h3, h4, by omega, h6⟩
theorem StA.ex {H H' : Hp} {a c : Addr} {n : Nat} (s : StA H a c n) (e : Ex H H') : StA H' a c n := by
  obtain ⟨z, r, k, mm, cs, h1, h2, h3⟩ := s
  exact ⟨z, r, k, mm, cs, e _ _ h1, e _ _ h2, h3⟩
theorem StA.na {H : Hp} {a c b : Addr} {n : Nat} (s : StA H a c n) (h : H b = none) : b ≠ a ∧ b ≠ c := by
  obtain ⟨z, r, k, mm, cs, h1, h2, _⟩ := s
  exact ⟨fun e => (by rw [e, h1] at h; cases h), fun e => (by rw [e, h2] at h; cases h)⟩
theorem StA.but {H H' : Hp} {a c p : Addr} {n : Nat} (s : StA H a c n) (b : But p H H') (h1 : p ≠ a) (h2 : p ≠ c) : StA H' a c n := by
  obtain ⟨z, r, k, mm, cs, g1, g2, g3⟩ := s
  exact ⟨z, r, k, mm, cs, by rw [b a (Ne.symm h1)]; exact g1, by rw [b c (Ne.symm h2)]; exact g2, g3⟩
theorem exB_at {a c b : Addr} {H H' : Hp} {o : HO} (e : ExB [a, c] H H') (h : H b = some o) (h1 : b ≠ a) (h2 : b ≠ c) : H' b = some o := e b o (by simp [h1, h2]) h
theorem exB_keep {a c : Addr} {G H H' : Hp} (e : ExB [a, c] H H') (g : Ex G H) (ga : G a = none) (gc : G c = none) : Ex G H' := e.keep g fun b hb => by
  rcases List.mem_cons.mp hb with rfl | hb
  · exact ga
  · rw [List.mem_singleton.mp hb]
    exact gc
theorem exB_none {a c p : Addr} {n : Nat} {H H' : Hp} (e : ExB [a, c] H H') (s : StA H' a c n) (h : H' p = none) : H p = none := by
  cases z : H p with
  | none => rfl
  | some o =>
    have := s.na h
    rw [exB_at e z this.1 this.2] at h
    cases h
theorem exB_but {a c p : Addr} {H H1 H2 : Hp} (e : ExB [a, c] H H1) (b : But p H1 H2) (n : H p = none) : ExB [a, c] H H2 := fun q o hq z => by
  rw [b q (ne_of_none z n)]
  exact e q o hq z
theorem RuleT.exB {K : PySem.W.Frag} {H H' : Hp} {a c : Addr} {n m : Nat} {v : V} {r : Rl} (q : RuleT K H v r) (e : ExB [a, c] H H') (s : StA H a c n) : RuleT K H' v r := by
  obtain ⟨t, h1, h2⟩ := q
  refine ⟨t, h1, ?_⟩
  obtain ⟨_, r', k, mm, cs, g1, g2, _⟩ := s
  have ne : ∀ o, H t = some o → tupO o = true → H' t = some o := fun o z y => e t o (fun w => by
    rcases List.mem_cons.mp w with w | w
    · rw [w, g1] at z
      cases z
      cases y
    · rw [List.mem_singleton.mp w, g2] at z
      cases z
      cases y) z
  rcases h2 with (h2 | ⟨o, h2⟩) | h2
  · exact .inl (.inl (ne _ h2 rfl))
  · exact .inl (.inr ⟨o, ne _ h2 rfl⟩)
  · exact .inr h2
theorem Fr.nx {G H H' : Hp} {a c : Addr} {n m : Nat} (f : Fr G H a c n) (e : ExB [a, c] H H') (s : StA H' a c m) : Fr G H' a c m := ⟨exB_keep e f.ex f.ga f.gc, f.ga, f.gc, s⟩
theorem perm_erase {α : Type} : ∀ {l : List α} {k : Nat} {x : α}, l[k]? = some x → l.Perm (x :: l.eraseIdx k)
  | [], k, x, h => by simp at h
  | y :: l, 0, x, h => by
    simp only [List.getElem?_cons_zero, Option.some.injEq] at h
    subst h
    exact List.Perm.refl _
  | y :: l, k + 1, x, h => by
    simp only [List.getElem?_cons_succ] at h
    exact ((perm_erase h).cons y).trans (List.Perm.swap _ _ _)
def spDrw : Sp := fun vs H Q _ => ∃ (a c : Addr) (n : Nat) (many : Int), vs = [.ref a, .int many] ∧ 1 ≤ many ∧ many ≤ 1000000 ∧ StA H a c n ∧ n < 1000000000 ∧ ∀ H' (d : Int), ExB [a, c] H H' → StA H' a c (n + 1) → 0 ≤ d → d < many → Q (.int d) H'
def spPick (K : PySem.W.Frag) : Sp := fun vs H Q _ => ∃ (G : Hp) (a c l : Addr) (n : Nat) (xs : List V), vs = [.ref a, .ref l] ∧ Fr G H a c n ∧ n < 1000000000 ∧ SqL K G l xs ∧ 0 < xs.length ∧ xs.length ≤ 1000 ∧ ∀ H' x, ExB [a, c] H H' → StA H' a c (n + 1) → x ∈ xs → Q x H'
def spMixed (K : PySem.W.Frag) : Sp := fun vs H Q _ => ∃ (G : Hp) (a c l : Addr) (n : Nat) (xs : List V), vs = [.ref a, .ref l] ∧ Fr G H a c n ∧ n + xs.length < 1000000000 ∧ SqL K G l xs ∧ xs.length ≤ 1000 ∧
  ∀ H' p ys, ExB [a, c] H H' → StA H' a c (n + xs.length) → H p = none → H' p = some (.lst ys) → ys.Perm xs → Q (.ref p) H'
def spStart (K : PySem.W.Frag) : Sp := fun vs H Q _ => ∃ (s : Addr) (cs : List Int), vs = [.ref s] ∧ SqL K H s (cs.map V.int) ∧ ∀ H' a c, Ex H H' → H a = none → H c = none → StA H' a c 0 → Q (.ref a) H'
section
variable {P : Program} {w : World} {K : PySem.W.Frag} {mg : Str → Option Value} {base : Heap}
theorem Kept.imp {CX : CXT} {k : Nat} {x : Str} {ps : List Str} {sp sp' : Sp} (G : Kept P w K mg base CX k x ps sp) (h : ∀ vs H Q E, sp' vs H Q E → sp vs H Q E) : Kept P w K mg base CX k x ps sp' := by
  obtain ⟨st, fd, D, F⟩ := G
  exact ⟨st, fd, D, F.imp h⟩
theorem ok_w_draw (T : Txt K mg) : Kept P w K mg base CX0 1 "_law_draw" ["_law_stream", "_law_many"] spDrw := by
  refine (ok_draw (P := P) (w := w) (base := base) T).imp fun vs H Q E h => ?_
  obtain ⟨a, c, n, many, rfl, h1, h2, s, h3, q⟩ := h
  refine ⟨hid a c H, a, c, n, many, rfl, h1, h2, fr_hid s, h3, fun H' d f d0 d1 => q H' d (fun b o hb z => ?_) f.st d0 d1⟩
  simp only [List.mem_cons, List.not_mem_nil, or_false, not_or] at hb
  exact f.ex b o (hid_of z hb.1 hb.2)
theorem sc_w_pick : FnScope ["_law_stream", "_law_some"] ["_law_stream", "_law_some"] (defScope st_w_pick) := ⟨rfl, rfl, rfl, by decide +kernel, rfl, by decide +kernel, by decide +kernel⟩
theorem ok_w_pick (T : Txt K mg) : Kept P w K mg base CX0 2 "_law_pick" ["_law_stream", "_law_some"] (spPick K) := by
  have G_w_draw := ok_w_draw (P := P) (w := w) (base := base) T
  refine kept0 T.d_w_pick sc_w_pick (fun vs H Q E h => ?_) (fun cdv A outer s H0 vs Q E hr h => ?_)
  · obtain ⟨G, a, c, l, n, xs, rfl, _⟩ := h
    rfl
  · obtain ⟨G, a, c, l, n, xs, rfl, f, hn, hl, x0, x1, q⟩ := h
    refine ⟨_, (pss_one (ps_ret (pe_ix ix_list (pv 1) (pe_c G_w_draw (hr.mono (by decide)) pass0 (pa_cons (pv 0) (pa_cons (pe_callB (cLenK K) (by rfl) T.f_len (by decide +kernel) (pa_cons (pv 1) pa_nil)) pa_nil))) (fun _ _ => rfl)))), ?_⟩
    walk_at "k"
    refine g_len (.inl (ex_l f.ex hl)) ?_
    walk_at "k"
    refine ⟨a, c, n, _, rfl, by omega, by omega, f.st, hn, fun H1 d e s d0 d1 => ?_⟩
    have hd : d.toNat < xs.length := by omega
    have he : ((d.toNat : Nat) : Int) = d := by omega
    refine g_ixL (ex_l (exB_keep e f.ex f.ga f.gc) hl) (by rw [← he]; exact atI_nat (List.getElem?_eq_getElem hd)) ?_
    exact q H1 _ e s (List.getElem_mem hd)
theorem sc_w_start : FnScope ["_law_script"] ["_law_script"] (defScope st_w_start) := ⟨rfl, rfl, rfl, by decide +kernel, rfl, by decide +kernel, by decide +kernel⟩
theorem ok_w_start (T : Txt K mg) : Kept P w K mg base CX0 1 "_law_start" ["_law_script"] (spStart K) := by
  refine kept0 T.d_w_start sc_w_start (fun vs H Q E h => ?_) (fun cdv A outer s H0 vs Q E hr h => ?_)
  · obtain ⟨s, cs, rfl, _⟩ := h
    rfl
  · obtain ⟨s, cs, rfl, hs, q⟩ := h
    refine ⟨_, (pss_one (ps_ret (pe_lst (pa_cons (pe_callTy cList (by rfl) T.f_list (by decide +kernel) (pa_cons (pv 0) pa_nil)) (pa_cons pe_int (pa_cons pe_int (pa_cons pe_int pa_nil))))))), ?_⟩
    walk_at "k"
    refine g_list (.inl hs) fun c H1 nc e1 hc b1 => ?_
    walk_at "k"
    refine g_new (sz (of_decide_eq_true rfl)) fun a H2 na e2 ha b2 => ?_
    exact q H2 a c (e1.trans e2) (none_ex e1 na) nc ⟨fun z => (by rw [z, hc] at na; cases na), 0, 0, 11, cs, ha, e2 _ _ hc, Int.le_refl _, Int.le_refl _, Int.le_refl _, by decide, by decide⟩
theorem sc_w_mixed : FnScope ["_law_stream", "_law_some", "_law_left", "_law_k"] ["_law_stream", "_law_some"] (defScope st_w_mixed) := ⟨rfl, rfl, rfl, by decide +kernel, rfl, by decide +kernel, by decide +kernel⟩
theorem ok_w_mixed (T : Txt K mg) : Kept P w K mg base CX0 2 "_law_mixed" ["_law_stream", "_law_some"] (spMixed K) := by
  have G_w_draw := ok_w_draw (P := P) (w := w) (base := base) T
  refine kept0 T.d_w_mixed sc_w_mixed (fun vs H Q E h => ?_) (fun cdv A outer s H0 vs Q E hr h => ?_)
  · obtain ⟨G, a, c, l, n, xs, rfl, _⟩ := h
    rfl
  · obtain ⟨G, a, c, l, n, xs, rfl, f, hn, hl, x1, q⟩ := h
    refine ⟨_, (pss_cons (ps_set (i := 2) sc_w_mixed.nd rfl (Or.inr rfl) (pe_callTy cList (by rfl) T.f_list (by decide +kernel) (pa_cons (pv 1) pa_nil)))
      (pss_one (ps_ret (pe_lc rfl (own := [("_law_k", 3)]) sc_w_mixed.nd (pi_range1 (by rfl) T.f_range (pa_cons (pe_callB (cLenK K) (by rfl) T.f_len (by decide +kernel) (pa_cons (pv 2) pa_nil)) pa_nil)) (blkOk_by (own := [("_law_k", 3)]) (N := ["_law_stream", "_law_some", "_law_left", "_law_k"]) (sc := defScope st_w_mixed) (by decide +kernel)) (fun _ _ _ _ _ => (pg_name (i := 3) sc_w_mixed.nd rfl (Or.inl rfl))) (fun _ _ _ _ _ => pts_nil) (fun _ _ _ _ _ => (pe_bmK K PySem.F.plainAttrs_list PySem.F.slot_list_pop PySem.F.type_list_pop mt_popAt (pv 2) (pa_cons (pe_c G_w_draw (hr.mono (by decide)) pass0 (pa_cons (pv 0) (pa_cons (pe_callB (cLenK K) (by rfl) T.f_len (by decide +kernel) (pa_cons (pv 2) pa_nil)) pa_nil))) pa_nil))))))), ?_⟩
    walk_at "k"
    refine g_list (.inl (ex_l f.ex hl)) fun p H1 np e1 hp b1 => ?_
    walk_at "k"
    have hpa := f.st.na np
    refine g_lcR1I ?_
    walk_at "k"
    refine g_len (.inl (sq_of hp)) ?_
    walk_at "k"
    refine lcR1_of (by omega) (by omega) fun L hL => ⟨fun i ac H => ∃ rest, StA H a c (n + i) ∧ ExB [a, c] H0 H ∧ H p = some (.lst rest) ∧ (ac ++ rest).Perm xs ∧ ac.length = i, fun H2 b2 e2 _ => ⟨xs, (f.st.ex e1).ex e2, exB_of (e1.trans e2), e2 _ _ hp, List.Perm.refl _, rfl⟩, ?_, ?_⟩
    · rintro i ac H hi hal hLH ⟨rest, hst, eH, hpH, hperm, hai⟩
      have hlen := hperm.length_eq
      rw [List.length_append, hai] at hlen
      have hLa := (f.st.ex e1).na hL
      refine g_lcs ?_
      walk_at "k"
      refine ⟨rfl, ?_⟩
      walk_at "k"
      refine ⟨ty_L hpH, ?_⟩
      walk_at "k"
      refine g_len (.inl (sq_of hpH)) ?_
      walk_at "k"
      refine ⟨a, c, n + i, _, rfl, by omega, by omega, hst, by omega, fun H3 d e3 s3 d0 d1 => ?_⟩
      have hd : d.toNat < rest.length := by omega
      have he : ((d.toNat : Nat) : Int) = d := by omega
      have hp3 := exB_at e3 hpH hpa.1 hpa.2
      have hx := List.getElem?_eq_getElem hd
      walk_at "k"
      refine g_popAt hp3 (by omega) (by rw [← he]; exact (ixN_seq (Evl.ixN_nat hd)).1) hx fun H4 b4 h4 => ?_
      have hLp : L ≠ p := fun z => by rw [z, hp] at hL; cases hL
      refine lcT_of hal (by omega) (by rw [b4 L hLp]; exact exB_at e3 hLH hLa.1 hLa.2) fun H5 b5 h5 => ⟨_, ?_, ?_, by rw [b5 p (Ne.symm hLp)]; exact h4, ?_, ?_⟩
      · exact (s3.but b4 hpa.1 hpa.2).but b5 hLa.1 hLa.2
      · exact exB_but (exB_but (eH.trans e3) b4 np) b5 (none_ex e1 hL)
      · refine List.Perm.trans ?_ hperm
        rw [List.append_assoc]
        exact (List.perm_append_left_iff _).mpr (perm_erase hx).symm
      · rw [List.length_append, hai]
        rfl
    · rintro ac H _ hLH ⟨rest, hst, eH, hpH, hperm, hai⟩
      have hlen := hperm.length_eq
      rw [List.length_append, hai] at hlen
      have hr0 : rest = [] := List.length_eq_zero_iff.mp (by omega)
      rw [hr0, List.append_nil] at hperm
      walk_at "k"
      have e : n + ((xs.length : Int)).toNat = n + xs.length := by omega
      rw [e] at hst
      exact q H L ac eH hst (none_ex e1 hL) hLH hperm
end
end Tk
namespace Tk
open PySem PySem.Spec PyProof.Rows L2
open Evl (Ex ex_l ex_t ex_rd sq_of st_of fresh_back)
local macro_rules | `(tactic| walk_at "g") => `(tactic| (repeat (first
  | (with_reducible refine g_seq ?_) | (with_reducible refine g_asg ?_) | (with_reducible refine g_name ?_) | (with_reducible refine g_sub ?_)
  | ((with_reducible refine' g_var ?e ?_); (case e => exact rfl)) | (with_reducible refine g_c ?_) | (with_reducible refine g_op ?_) | (with_reducible refine g_un ?_) | (with_reducible refine g_U ?_)
  | (with_reducible refine g_I0 ?_) | (with_reducible refine g_eqI ?_) | (with_reducible refine g_neI ?_) | (with_reducible refine g_eqS ?_) | (with_reducible refine g_neS ?_) | (with_reducible refine g_eqB ?_) | (with_reducible refine g_neB ?_)
  | (with_reducible refine g_test ?_) | (with_reducible refine g_tB ?_) | (with_reducible refine g_bl ?_) | (with_reducible refine g_and ?_) | (with_reducible refine g_or ?_) | (with_reducible refine g_not ?_)
  | (with_reducible refine g_andV ?_) | (with_reducible refine g_orV ?_) | (with_reducible refine g_notV ?_) | (with_reducible refine g_ifE ?_) | (with_reducible refine g_ifS ?_)
  | (with_reducible refine g_next ?_) | (with_reducible refine g_ret ?_) | (with_reducible refine g_drop ?_) | (with_reducible refine g_nil ?_) | (with_reducible refine g_cons ?_) | (with_reducible refine g_call ?_)
  | (with_reducible refine g_cb ?_) | (with_reducible refine g_bm ?_) | (with_reducible refine g_lst ?_) | (with_reducible refine g_tup ?_) | (with_reducible refine iteT ?_) | (with_reducible refine iteF ?_) | (with_reducible refine g_nt ?_) | (with_reducible refine g_nf ?_)
  | (with_reducible refine g_par ?_) | (with_reducible refine g_par3 ?_) | (with_reducible refine g_two ?_) | (with_reducible refine g_three ?_) | (with_reducible refine g_ckw ?_) | (with_reducible refine g_yes ?_) | (with_reducible refine g_chain ?_) | (with_reducible refine g_gnil ?_) | (with_reducible refine g_gcons ?_) | (with_reducible refine g_fld ?_) | (with_reducible refine g_sfld ?_) | (with_reducible refine g_isN ?_) | (with_reducible refine g_nint ?_) | (with_reducible refine g_nintB ?_) | (with_reducible refine g_max ?_) | (with_reducible refine g_min ?_))))
local macro_rules | `(tactic| walk_at "k") => `(tactic| (repeat (first
  | (with_reducible refine g_seq ?_) | (with_reducible refine g_asg ?_) | (with_reducible refine g_name ?_) | (with_reducible refine g_sub ?_)
  | ((with_reducible refine' g_var ?e ?_); (case e => exact rfl)) | (with_reducible refine g_c ?_) | (with_reducible refine g_op ?_) | (with_reducible refine g_un ?_) | (with_reducible refine g_U ?_)
  | (with_reducible refine g_I0 ?_) | (with_reducible refine g_eqI ?_) | (with_reducible refine g_neI ?_) | (with_reducible refine g_eqS ?_) | (with_reducible refine g_neS ?_) | (with_reducible refine g_eqB ?_) | (with_reducible refine g_neB ?_)
  | (with_reducible refine g_test ?_) | (with_reducible refine g_tB ?_) | (with_reducible refine g_bl ?_) | (with_reducible refine g_and ?_) | (with_reducible refine g_or ?_) | (with_reducible refine g_not ?_)
  | (with_reducible refine g_andV ?_) | (with_reducible refine g_orV ?_) | (with_reducible refine g_notV ?_) | (with_reducible refine g_ifE ?_)
  | (with_reducible refine g_next ?_) | (with_reducible refine g_ret ?_) | (with_reducible refine g_drop ?_) | (with_reducible refine g_nil ?_) | (with_reducible refine g_cons ?_) | (with_reducible refine g_call ?_)
  | (with_reducible refine g_cb ?_) | (with_reducible refine g_bm ?_) | (with_reducible refine g_lst ?_) | (with_reducible refine g_tup ?_) | (with_reducible refine iteT ?_) | (with_reducible refine iteF ?_) | (with_reducible refine g_nt ?_) | (with_reducible refine g_nf ?_)
  | (with_reducible refine g_par ?_) | (with_reducible refine g_par3 ?_) | (with_reducible refine g_two ?_) | (with_reducible refine g_three ?_) | (with_reducible refine g_ckw ?_) | (with_reducible refine g_yes ?_) | (with_reducible refine g_chain ?_) | (with_reducible refine g_gnil ?_) | (with_reducible refine g_gcons ?_) | (with_reducible refine g_fld ?_) | (with_reducible refine g_sfld ?_) | (with_reducible refine g_isN ?_) | (with_reducible refine g_nint ?_) | (with_reducible refine g_nintB ?_) | (with_reducible refine g_max ?_) | (with_reducible refine g_min ?_))))
/-- what is wanted of an expression's value -/
theorem g_ecutR {tx : TE} {σ : L2.St} {H : Hp} {Q : VK} (R : V → Hp → Prop) (h : ∀ Q' : VK, (∀ v H', R v H' → Q' v H') → tx σ H Q') (k : ∀ v H', R v H' → Q v H') : tx σ H Q := h _ k
def kinds : List Str := ["none", "one", "two", "more"]
def spRule (K : PySem.W.Frag) : Sp := fun vs H Q _ => ∃ (G : Hp) (a c l : Addr) (n : Nat) (ls : List Str) (far turns : Int), vs = [.ref a, .ref l, .int far, .int turns] ∧ Fr G H a c n ∧ n + 10 < 1000000000 ∧ SqL K G l (ls.map V.str) ∧ (∀ s ∈ ls, s ∈ kinds) ∧ 0 < ls.length ∧ ls.length ≤ 10 ∧ 1 ≤ far ∧ far ≤ 6 ∧ 1 ≤ turns ∧ turns ≤ 6 ∧
  ∀ H' v r, ExB [a, c] H H' → StA H' a c (n + 8) → RuleT K H' v r → Good r → (r.hi = none → ("more" : Str) ∈ ls) → (r.lf = "two" → ("two" : Str) ∈ ls) → Q v H'
section
variable {P : Program} {w : World} {K : PySem.W.Frag} {mg : Str → Option Value} {base : Heap}
theorem sc_w_a_rule : FnScope ["_law_stream", "_law_lefts", "_law_far", "_law_turns", "_law_left", "_law_modulus", "_law_low", "_law_high"] ["_law_stream", "_law_lefts", "_law_far", "_law_turns"] (defScope st_w_a_rule) := ⟨rfl, rfl, rfl, by decide +kernel, rfl, by decide +kernel, by decide +kernel⟩
theorem ok_w_a_rule (T : Txt K mg) : Kept P w K mg base CX0 3 "_law_a_rule" ["_law_stream", "_law_lefts", "_law_far", "_law_turns"] (spRule K) := by
  have G_w_draw := ok_w_draw (P := P) (w := w) (base := base) T
  have G_w_pick := ok_w_pick (P := P) (w := w) (base := base) T
  refine kept0 T.d_w_a_rule sc_w_a_rule (fun vs H Q E h => ?_) (fun cdv A outer s H0 vs Q E hr h => ?_)
  · obtain ⟨G, a, c, l, n, ls, far, turns, rfl, _⟩ := h
    rfl
  · obtain ⟨G, a, c, l, n, ls, far, turns, rfl, f, hn, hl, hk, l0, l10, f1, f6, t1, t6, q⟩ := h
    refine ⟨_, (pss_cons (ps_par (i := 4) (j := 5) rfl sc_w_a_rule.nd rfl rfl (by decide) rfl rfl (pa_cons (pe_c G_w_pick (hr.mono (by decide)) pass0 (pa_cons (pv 0) (pa_cons (pv 1) pa_nil))) (pa_cons (pe_ifExp (pt_cmpR op_eq (pe_c G_w_draw (hr.mono (by decide)) pass0 (pa_cons (pv 0) (pa_cons pe_int pa_nil))) pe_int (nomark _)) (pe_op op_add pe_int (pe_c G_w_draw (hr.mono (by decide)) pass0 (pa_cons (pv 0) (pa_cons (pv 3) pa_nil)))) pe_int) pa_nil)) rfl)
      (pss_cons (ps_set (i := 6) sc_w_a_rule.nd rfl (Or.inl rfl) (pe_ifExp (pt_cmpR op_eq (pv 4) pe_str (nomark _)) (pe_c G_w_draw (hr.mono (by decide)) pass0 (pa_cons (pv 0) (pa_cons (pv 2) pa_nil))) (pe_op op_add pe_int (pe_c G_w_draw (hr.mono (by decide)) pass0 (pa_cons (pv 0) (pa_cons (pv 2) pa_nil))))))
      (pss_cons (ps_if (pt_cmpR op_eq (pv 4) pe_str (nomark _)) (pss_one (ps_ret (pe_tup (pa_cons (pv 6) (pa_cons pe_non (pa_cons (pe_c G_w_pick (hr.mono (by decide)) pass0 (pa_cons (pv 0) (pa_cons (pe_lst (pa_cons pe_str (pa_cons pe_str (pa_cons pe_str pa_nil)))) pa_nil))) (pa_cons pe_int (pa_cons pe_int pa_nil)))))))) pss_nil)
      (pss_cons (ps_set (i := 7) sc_w_a_rule.nd rfl (Or.inl rfl) (pe_callB (cMin rfl) (by rfl) T.f_min (by decide +kernel) (pa_cons (pe_callB (cMax rfl) (by rfl) T.f_max (by decide +kernel) (pa_cons pe_int (pa_cons (pv 6) pa_nil))) (pa_cons (pe_op op_add (pv 6) (pe_ifExp (pt_cmpR op_eq (pe_c G_w_draw (hr.mono (by decide)) pass0 (pa_cons (pv 0) (pa_cons pe_int pa_nil))) pe_int (nomark _)) (pe_op op_add pe_int (pe_c G_w_draw (hr.mono (by decide)) pass0 (pa_cons (pv 0) (pa_cons (pv 2) pa_nil)))) pe_int)) pa_nil))))
      (pss_one (ps_ret (pe_tup (pa_cons (pv 6) (pa_cons (pv 7) (pa_cons (pv 4) (pa_cons (pe_c G_w_draw (hr.mono (by decide)) pass0 (pa_cons (pv 0) (pa_cons (pv 5) pa_nil))) (pa_cons (pv 5) pa_nil)))))))))))), ?_⟩
    walk_at "k"
    refine ⟨G, a, c, l, n, ls.map V.str, rfl, f, by omega, hl, by rw [List.length_map]; exact l0, by rw [List.length_map]; omega, fun H1 x e1 s1 hx => ?_⟩
    obtain ⟨lf, hlf, rfl⟩ := List.mem_map.mp hx
    with_reducible refine g_cons ?_
    refine g_ecutR (fun v H' => ∃ mo, v = .int mo ∧ ExB [a, c] H0 H' ∧ StA H' a c (n + 3) ∧ 1 ≤ mo ∧ mo ≤ 6) (fun Q' q' => ?_) ?_
    · walk_at "k"
      refine ⟨a, c, n + 1, 2, rfl, by decide, by decide, s1, by omega, fun H2 d e2 s2 d0 d1 => ?_⟩
      walk_at "k"
      by_cases h0 : d = 0
      · rw [decide_eq_true h0]
        walk_at "k"
        refine ⟨a, c, n + 2, turns, rfl, t1, by omega, s2, by omega, fun H3 d3 e3 s3 d30 d31 => ?_⟩
        walk_at "k"
        exact q' _ _ ⟨_, rfl, (e1.trans e2).trans e3, s3, by omega, by omega⟩
      · rw [decide_eq_false h0]
        walk_at "k"
        exact q' _ _ ⟨1, rfl, e1.trans e2, s2.mono (by omega), by omega, by omega⟩
    rintro _ H3 ⟨mo, rfl, e3, s3, m1, m6⟩
    with_reducible refine g_nil ?_
    with_reducible refine g_two ?_
    with_reducible refine g_seq ?_
    with_reducible refine g_asg ?_
    refine g_ecutR (fun v H' => ∃ lo, v = .int lo ∧ ExB [a, c] H0 H' ∧ StA H' a c (n + 4) ∧ 0 ≤ lo ∧ lo ≤ 6 ∧ (lf ≠ "two" → 1 ≤ lo)) (fun Q' q' => ?_) ?_
    · walk_at "k"
      by_cases h0 : lf = "two"
      · rw [decide_eq_true h0]
        walk_at "k"
        refine ⟨a, c, n + 3, far, rfl, f1, by omega, s3, by omega, fun H4 d4 e4 s4 d40 d41 => ?_⟩
        walk_at "k"
        exact q' _ _ ⟨_, rfl, e3.trans e4, s4, d40, by omega, fun z => absurd h0 z⟩
      · rw [decide_eq_false h0]
        walk_at "k"
        refine ⟨a, c, n + 3, far, rfl, f1, by omega, s3, by omega, fun H4 d4 e4 s4 d40 d41 => ?_⟩
        walk_at "k"
        exact q' _ _ ⟨_, rfl, e3.trans e4, s4, by omega, by omega, fun z => by omega⟩
    rintro _ H4 ⟨lo, rfl, e4, s4, lo0, lo6, lo1⟩
    walk_at "k"
    with_reducible refine g_ifS ?_
    walk_at "k"
    by_cases hm : lf = "more"
    · rw [decide_eq_true hm]
      walk_at "k"
      refine g_new (sz (of_decide_eq_true rfl)) fun l5 H5 n5 e5 h5 b5 => ?_
      have na5 := s4.na n5
      walk_at "k"
      refine ⟨hid a c H5, a, c, l5, n + 4, [.str "none", .str "one", .str "one"], rfl, fr_hid (s4.ex e5), by omega, sq_of (hid_of h5 na5.1 na5.2), by decide, by decide, fun H6 x6 e6 s6 hx6 => ?_⟩
      walk_at "k"
      obtain ⟨z, hz, rfl⟩ : ∃ z : Str, (z = "none" ∨ z = "one") ∧ x6 = .str z := by
        simp only [List.mem_cons, List.not_mem_nil, or_false] at hx6
        rcases hx6 with rfl | rfl | rfl
        · exact ⟨_, .inl rfl, rfl⟩
        · exact ⟨_, .inr rfl, rfl⟩
        · exact ⟨_, .inr rfl, rfl⟩
      refine g_newT (sz (of_decide_eq_true rfl)) fun t H7 nt e7 ht b7 => ?_
      have hl1 := lo1 (by rw [hm]; decide +kernel)
      have hz2 : z ≠ "two" := by
        rcases hz with rfl | rfl <;> decide +kernel
      refine q H7 (.ref t) ⟨lo, none, z, 0, 1⟩ (((e4.trans (exB_of e5)).trans e6).trans (exB_of e7)) ((s6.ex e7).mono (by omega)) ⟨t, rfl, st_of ht⟩ ?_ (fun _ => by rw [← hm]; exact hlf) (fun y => absurd y hz2)
      exact ⟨lo0, (show lo ≤ 12 by omega), hz.elim .inl fun y => .inr (.inl y), fun _ => hl1, Int.le_refl 1, (show (1 : Int) ≤ 6 by decide), Int.le_refl 0, (show (0 : Int) < 1 by decide), fun _ => ⟨hz2, rfl⟩, fun h y => (by cases y)⟩
    · rw [decide_eq_false hm]
      with_reducible refine iteF ?_
      with_reducible refine g_next ?_
      with_reducible refine g_seq ?_
      with_reducible refine g_asg ?_
      refine g_ecutR (fun v H' => ∃ hi, v = .int hi ∧ ExB [a, c] H0 H' ∧ StA H' a c (n + 6) ∧ lo ≤ hi ∧ hi ≤ 12) (fun Q' q' => ?_) ?_
      · walk_at "k"
        refine ⟨a, c, n + 4, 3, rfl, by decide, by decide, s4, by omega, fun H5 d5 e5 s5 d50 d51 => ?_⟩
        walk_at "k"
        by_cases h0 : d5 = 0
        · rw [decide_eq_true h0]
          walk_at "k"
          refine ⟨a, c, n + 5, far, rfl, f1, by omega, s5, by omega, fun H6 d6 e6 s6 d60 d61 => ?_⟩
          walk_at "k"
          refine q' _ _ ⟨_, rfl, (e4.trans e5).trans e6, s6, ?_, ?_⟩
          · split <;> split <;> omega
          · split <;> split <;> omega
        · rw [decide_eq_false h0]
          walk_at "k"
          refine q' _ _ ⟨_, rfl, e4.trans e5, s5.mono (by omega), ?_, ?_⟩
          · split <;> split <;> omega
          · split <;> split <;> omega
      rintro _ H6 ⟨hi, rfl, e6, s6, hi1, hi12⟩
      walk_at "k"
      refine ⟨a, c, n + 6, mo, rfl, m1, by omega, s6, by omega, fun H7 re e7 s7 re0 re1 => ?_⟩
      walk_at "k"
      refine g_newT (sz (of_decide_eq_true rfl)) fun t H8 nt e8 ht b8 => ?_
      have hl3 : lf = "none" ∨ lf = "one" ∨ lf = "two" := by
        have := hk lf hlf
        simp only [kinds, List.mem_cons, List.not_mem_nil, or_false] at this
        rcases this with z | z | z | z
        · exact .inl z
        · exact .inr (.inl z)
        · exact .inr (.inr z)
        · exact absurd z hm
      refine q H8 (.ref t) ⟨lo, some hi, lf, re, mo⟩ ((e6.trans e7).trans (exB_of e8)) ((s7.ex e8).mono (by omega)) ⟨t, rfl, st_of ht⟩ ?_ (fun y => by cases y) (fun y => by rw [← show lf = "two" from y]; exact hlf)
      exact ⟨lo0, (show lo ≤ 12 by omega), hl3, lo1, m1, m6, re0, re1, fun y => (by cases y), fun h y => (by cases y; exact ⟨hi1, hi12⟩)⟩
end
end Tk
namespace Tk
open PySem PySem.Spec PyProof.Rows L2
open Evl (Ex ex_l ex_t ex_rd sq_of st_of fresh_back)
local macro_rules | `(tactic| walk_at "g") => `(tactic| (repeat (first
  | (with_reducible refine g_seq ?_) | (with_reducible refine g_asg ?_) | (with_reducible refine g_name ?_) | (with_reducible refine g_sub ?_)
  | ((with_reducible refine' g_var ?e ?_); (case e => exact rfl)) | (with_reducible refine g_c ?_) | (with_reducible refine g_op ?_) | (with_reducible refine g_un ?_) | (with_reducible refine g_U ?_)
  | (with_reducible refine g_I0 ?_) | (with_reducible refine g_eqI ?_) | (with_reducible refine g_neI ?_) | (with_reducible refine g_eqS ?_) | (with_reducible refine g_neS ?_) | (with_reducible refine g_eqB ?_) | (with_reducible refine g_neB ?_)
  | (with_reducible refine g_test ?_) | (with_reducible refine g_tB ?_) | (with_reducible refine g_bl ?_) | (with_reducible refine g_and ?_) | (with_reducible refine g_or ?_) | (with_reducible refine g_not ?_)
  | (with_reducible refine g_andV ?_) | (with_reducible refine g_orV ?_) | (with_reducible refine g_notV ?_) | (with_reducible refine g_ifE ?_) | (with_reducible refine g_ifS ?_)
  | (with_reducible refine g_next ?_) | (with_reducible refine g_ret ?_) | (with_reducible refine g_drop ?_) | (with_reducible refine g_nil ?_) | (with_reducible refine g_cons ?_) | (with_reducible refine g_call ?_)
  | (with_reducible refine g_cb ?_) | (with_reducible refine g_bm ?_) | (with_reducible refine g_lst ?_) | (with_reducible refine g_tup ?_) | (with_reducible refine iteT ?_) | (with_reducible refine iteF ?_) | (with_reducible refine g_nt ?_) | (with_reducible refine g_nf ?_)
  | (with_reducible refine g_par ?_) | (with_reducible refine g_par3 ?_) | (with_reducible refine g_two ?_) | (with_reducible refine g_three ?_) | (with_reducible refine g_ckw ?_) | (with_reducible refine g_yes ?_) | (with_reducible refine g_chain ?_) | (with_reducible refine g_gnil ?_) | (with_reducible refine g_gcons ?_) | (with_reducible refine g_fld ?_) | (with_reducible refine g_sfld ?_) | (with_reducible refine g_isN ?_) | (with_reducible refine g_nint ?_) | (with_reducible refine g_nintB ?_) | (with_reducible refine g_max ?_) | (with_reducible refine g_min ?_))))
local macro_rules | `(tactic| walk_at "k") => `(tactic| (repeat (first
  | (with_reducible refine g_seq ?_) | (with_reducible refine g_asg ?_) | (with_reducible refine g_name ?_) | (with_reducible refine g_sub ?_)
  | ((with_reducible refine' g_var ?e ?_); (case e => exact rfl)) | (with_reducible refine g_c ?_) | (with_reducible refine g_op ?_) | (with_reducible refine g_un ?_) | (with_reducible refine g_U ?_)
  | (with_reducible refine g_I0 ?_) | (with_reducible refine g_eqI ?_) | (with_reducible refine g_neI ?_) | (with_reducible refine g_eqS ?_) | (with_reducible refine g_neS ?_) | (with_reducible refine g_eqB ?_) | (with_reducible refine g_neB ?_)
  | (with_reducible refine g_test ?_) | (with_reducible refine g_tB ?_) | (with_reducible refine g_bl ?_) | (with_reducible refine g_and ?_) | (with_reducible refine g_or ?_) | (with_reducible refine g_not ?_)
  | (with_reducible refine g_andV ?_) | (with_reducible refine g_orV ?_) | (with_reducible refine g_notV ?_) | (with_reducible refine g_ifE ?_)
  | (with_reducible refine g_next ?_) | (with_reducible refine g_ret ?_) | (with_reducible refine g_drop ?_) | (with_reducible refine g_nil ?_) | (with_reducible refine g_cons ?_) | (with_reducible refine g_call ?_)
  | (with_reducible refine g_cb ?_) | (with_reducible refine g_bm ?_) | (with_reducible refine g_lst ?_) | (with_reducible refine g_tup ?_) | (with_reducible refine iteT ?_) | (with_reducible refine iteF ?_) | (with_reducible refine g_nt ?_) | (with_reducible refine g_nf ?_)
  | (with_reducible refine g_par ?_) | (with_reducible refine g_par3 ?_) | (with_reducible refine g_two ?_) | (with_reducible refine g_three ?_) | (with_reducible refine g_ckw ?_) | (with_reducible refine g_yes ?_) | (with_reducible refine g_chain ?_) | (with_reducible refine g_gnil ?_) | (with_reducible refine g_gcons ?_) | (with_reducible refine g_fld ?_) | (with_reducible refine g_sfld ?_) | (with_reducible refine g_isN ?_) | (with_reducible refine g_nint ?_) | (with_reducible refine g_nintB ?_) | (with_reducible refine g_max ?_) | (with_reducible refine g_min ?_))))
theorem g_ext {l b : Addr} {xs zs : List V} {H : Hp} {Q : VK} (hl : H l = some (.lst xs)) (hb : H b = some (.lst zs)) (hz : xs.length + zs.length ≤ 100000) (h : ∀ H', But l H H' → H' l = some (.lst (xs ++ zs)) → Q .non H') : rExtend (.ref l) [.ref b] H Q :=
  ⟨l, b, xs, zs, rfl, rfl, hl, hb, sz hz, h _ (fun _ hb => upd_ne hb) upd_same⟩
theorem g_cat {l b : Addr} {xs zs : List V} {H : Hp} {Q : VK} (hl : H l = some (.lst xs)) (hb : H b = some (.lst zs)) (hz : xs.length + zs.length ≤ 100000) (h : ∀ p H', H p = none → Ex H H' → H' p = some (.lst (xs ++ zs)) → But p H H' → Q (.ref p) H') : rCat (.ref l) (.ref b) H Q :=
  ⟨l, b, xs, zs, rfl, rfl, hl, hb, sz hz, fun p np => h p _ np (Evl.Ex.new np) upd_same fun _ hb => upd_ne hb⟩
theorem g_sl {te : TE} {tl th : TO} {r : V → Option Int → Option Int → Hp → VK → Prop} {σ : L2.St} {H : Hp} {Q : VK} (h : te σ H fun x H1 => tl σ H1 fun l H2 => th σ H2 fun u H3 => r x l u H3 Q) : tSl r te tl th σ H Q := h
theorem g_part {t : TE} {σ : L2.St} {H : Hp} {Q : Option Int → Hp → Prop} (h : t σ H fun x H1 => ∃ i, x = .int i ∧ Q (some i) H1) : tPart t σ H Q := h
theorem g_nopart {σ : L2.St} {H : Hp} {Q : Option Int → Hp → Prop} (h : Q none H) : tNoPart σ H Q := h
theorem cut_to {xs : List V} {m : Int} (h : 0 ≤ m) : cutV xs none (some m) = xs.take m.toNat := by
  unfold cutV
  show (xs.drop 0).take ((if m < 0 then (m + (xs.length : Int)).toNat else min m.toNat xs.length) - 0) = _
  rw [if_neg (by omega), Nat.sub_zero, List.drop_zero]
  by_cases z : m.toNat ≤ xs.length
  · rw [Nat.min_eq_left z]
  · rw [Nat.min_eq_right (by omega), List.take_of_length_le (Nat.le_refl _), List.take_of_length_le (by omega)]
theorem g_slTo {K : PySem.W.Frag} {l : Addr} {xs : List V} {m : Int} {H : Hp} {Q : VK} (hl : SqL K H l xs) (hm : 0 ≤ m) (h : ∀ p H', H p = none → Ex H H' → H' p = some (.lst (xs.take m.toNat)) → Q (.ref p) H') : rSlL K (.ref l) none (some m) H Q :=
  ⟨l, xs, rfl, hl, fun p np => h p _ np (Evl.Ex.new np) (by rw [cut_to hm]; exact upd_same)⟩
theorem RuleT.but {K : PySem.W.Frag} {H H' : Hp} {p : Addr} {ys : List V} {v : V} {r : Rl} (q : RuleT K H v r) (b : But p H H') (h : H p = some (.lst ys)) : RuleT K H' v r := (q.del h).ex (del_but b)
theorem prd_cut {α β : Type} {P : α → β → Prop} {xs : List α} {ys : List β} (h : Paired P xs ys) (n : Nat) : Paired P (xs.take n) (ys.take n) := prd_take n h
/-- the lists of kinds -/
def lefts : Int → List Str
  | 0 => ["none", "one", "two", "two"]
  | 1 => ["none", "one", "one"]
  | _ => ["none", "one", "more"]
/-- what is known of the rules drawn so far -/
structure Dr (way : Int) (R : List Rl) : Prop where
  good : ∀ r ∈ R, Good r
  nd : R.Nodup
  hi : ∀ r ∈ R, r.hi = none → way = 2
  two : ∀ r ∈ R, r.lf = "two" → way ≠ 2
theorem Dr.goods {way : Int} {R : List Rl} (d : Dr way R) (h : R.length ≤ 6) : Goods R :=
  ⟨d.good, d.nd, fun r hr s hs => ⟨fun z => d.two s hs z.2 (d.hi r hr z.1), fun z => d.two r hr z.2 (d.hi s hs z.1)⟩, h⟩
theorem Dr.snoc {way : Int} {R : List Rl} {r : Rl} (d : Dr way R) (g : Good r) (n : r ∉ R) (h1 : r.hi = none → way = 2) (h2 : r.lf = "two" → way ≠ 2) : Dr way (R ++ [r]) := by
  have m : ∀ {s}, s ∈ R ++ [r] → s ∈ R ∨ s = r := fun hs => (List.mem_append.mp hs).imp id List.mem_singleton.mp
  refine ⟨fun s hs => ?_, ?_, fun s hs => ?_, fun s hs => ?_⟩
  · rcases m hs with h | rfl
    · exact d.good s h
    · exact g
  · exact List.nodup_append.mpr ⟨d.nd, List.pairwise_singleton _ _, fun a ha b hb e => by
      rw [List.mem_singleton.mp hb] at e
      exact n (e ▸ ha)⟩
  · rcases m hs with h | rfl
    · exact d.hi s h
    · exact h1
  · rcases m hs with h | rfl
    · exact d.two s h
    · exact h2
theorem Dr.take {way : Int} {R : List Rl} (d : Dr way R) (n : Nat) : Dr way (R.take n) :=
  ⟨fun r hr => d.good r (List.mem_of_mem_take hr), d.nd.sublist (List.take_sublist _ _), fun r hr => d.hi r (List.mem_of_mem_take hr), fun r hr => d.two r (List.mem_of_mem_take hr)⟩
theorem lefts_ok {way : Int} (h0 : 0 ≤ way) (h2 : way ≤ 2) : (∀ s ∈ lefts way, s ∈ kinds) ∧ 0 < (lefts way).length ∧ (lefts way).length ≤ 10 ∧ (("more" : Str) ∈ lefts way → way = 2) ∧ (("two" : Str) ∈ lefts way → way ≠ 2) := by
  have : way = 0 ∨ way = 1 ∨ way = 2 := by omega
  rcases this with rfl | rfl | rfl <;> decide +kernel
def spRules (K : PySem.W.Frag) : Sp := fun vs H Q _ => ∃ (a c : Addr) (n : Nat) (way many far turns : Int), vs = [.ref a, .int way, .int many, .int far, .int turns] ∧ StA H a c n ∧ n + 100 < 1000000000 ∧ 0 ≤ way ∧ way ≤ 2 ∧ 0 ≤ many ∧ many ≤ 6 ∧ 1 ≤ far ∧ far ≤ 6 ∧ 1 ≤ turns ∧ turns ≤ 6 ∧
  ∀ H' p ys R, ExB [a, c] H H' → StA H' a c (n + 60) → H p = none → H' p = some (.lst ys) → Paired (RuleT K H') ys R → Goods R → Srt R → Q (.ref p) H'
section
variable {P : Program} {w : World} {K : PySem.W.Frag} {mg : Str → Option Value} {base : Heap}
theorem sc_w_a_rules : FnScope ["_law_stream", "_law_way", "_law_many", "_law_far", "_law_turns", "_law_lefts", "_law_found", "_law_k", "_law_rule"] ["_law_stream", "_law_way", "_law_many", "_law_far", "_law_turns"] (defScope st_w_a_rules) := ⟨rfl, rfl, rfl, by decide +kernel, rfl, by decide +kernel, by decide +kernel⟩
theorem ok_w_a_rules (T : Txt K mg) : Kept P w K mg base CX0 4 "_law_a_rules" ["_law_stream", "_law_way", "_law_many", "_law_far", "_law_turns"] (spRules K) := by
  have G_w_draw := ok_w_draw (P := P) (w := w) (base := base) T
  have G_w_a_rule := ok_w_a_rule (P := P) (w := w) (base := base) T
  have G_w_a_line := ok_w_a_line (P := P) (w := w) (base := base) T
  refine kept0 T.d_w_a_rules sc_w_a_rules (fun vs H Q E h => ?_) (fun cdv A outer s H0 vs Q E hr h => ?_)
  · obtain ⟨a, c, n, way, many, far, turns, rfl, _⟩ := h
    rfl
  · obtain ⟨a, c, n, way, many, far, turns, rfl, s0, hn, w0, w2, m0, m6, f1, f6, t1, t6, q⟩ := h
    refine ⟨_, (pss_cons (ps_par (i := 5) (j := 6) rfl sc_w_a_rules.nd rfl rfl (by decide) rfl rfl (pa_cons (pe_ix ix_list (pe_lst (pa_cons (pe_lst (pa_cons pe_str (pa_cons pe_str (pa_cons pe_str (pa_cons pe_str pa_nil))))) (pa_cons (pe_lst (pa_cons pe_str (pa_cons pe_str (pa_cons pe_str pa_nil)))) (pa_cons (pe_lst (pa_cons pe_str (pa_cons pe_str (pa_cons pe_str pa_nil)))) pa_nil)))) (pv 1) (fun _ _ => rfl)) (pa_cons (pe_lst pa_nil) pa_nil)) rfl)
      (pss_cons (ps_for PassesOwn.never rfl (pi_range1 (by rfl) T.f_range (pa_cons (pv 2) pa_nil)) (pg_name (i := 7) sc_w_a_rules.nd rfl (Or.inl rfl)) (pss_cons (ps_set (i := 8) sc_w_a_rules.nd rfl (Or.inl rfl) (pe_c G_w_a_rule (hr.mono (by decide)) pass0 (pa_cons (pv 0) (pa_cons (pv 5) (pa_cons (pv 3) (pa_cons (pv 4) pa_nil))))))
      (pss_one (ps_expr (pe_bmK K PySem.F.plainAttrs_list PySem.F.slot_list_extend PySem.F.type_list_extend mt_extend (pv 6) (pa_cons (pe_ifExp (pt_cmpR (op_notInD (units_of hr)) (pv 8) (pv 6) (by rfl)) (pe_lst (pa_cons (pv 8) pa_nil)) (pe_lst pa_nil)) pa_nil))))))
      (pss_cons (ps_if (PW.pt (pw_and (pt_cmpR op_eq (pv 1) pe_int (nomark _)) (pw_and1 (pt_val (pe_callB (cr_all rfl) (by rfl) T.f_all (by decide +kernel) (pa_cons (pe_lc rfl (own := [("_law_rule", 8)]) sc_w_a_rules.nd (pi_q (pv 6)) (blkOk_by (own := [("_law_rule", 8)]) (N := ["_law_stream", "_law_way", "_law_many", "_law_far", "_law_turns", "_law_lefts", "_law_found", "_law_k", "_law_rule"]) (sc := defScope st_w_a_rules) (by decide +kernel)) (fun _ _ _ _ _ => (pg_name (i := 8) sc_w_a_rules.nd rfl (Or.inl rfl))) (fun _ _ _ _ _ => pts_nil) (fun _ _ _ _ _ => (pe_cmpR op_notN (pe_ix (ixT K) (pv 8) pe_int (fun _ _ => rfl)) pe_non (nomark _)))) pa_nil)))))) (pss_one (ps_set (i := 6) sc_w_a_rules.nd rfl (Or.inl rfl) (pe_op op_cat (pe_slice sl_list (pv 6) po_none (po_some (pe_callB (cMax rfl) (by rfl) T.f_max (by decide +kernel) (pa_cons pe_int (pa_cons (pe_op op_sub (pv 2) pe_int) pa_nil))))) (pe_lst (pa_cons (pe_tup (pa_cons (pe_op op_add pe_int (pe_c G_w_draw (hr.mono (by decide)) pass0 (pa_cons (pv 0) (pa_cons (pv 3) pa_nil)))) (pa_cons pe_non (pa_cons pe_str (pa_cons pe_int (pa_cons pe_int pa_nil)))))) pa_nil))))) pss_nil)
      (pss_one (ps_ret (pe_sortK line G_w_a_line (hr.mono (by decide)) T.f_sorted (pa_cons (pv 6) pa_nil) (pk_cons (pe_glob (v := .ref (He.ga K "_law_a_line")) (by rfl) (kept_g G_w_a_line) rfl) pk_nil))))))), ?_⟩
    walk_at "k"
    refine g_new (sz (of_decide_eq_true rfl)) fun p0 H1 n0 e1 h1 b1 => ?_
    walk_at "k"
    refine g_new (sz (of_decide_eq_true rfl)) fun p1 H2 n1 e2 h2 b2 => ?_
    walk_at "k"
    refine g_new (sz (of_decide_eq_true rfl)) fun p2 H3 n2 e3 h3 b3 => ?_
    walk_at "k"
    refine g_new (sz (of_decide_eq_true rfl)) fun p3 H4 n3 e4 h4 b4 => ?_
    walk_at "k"
    obtain ⟨l, hat, hl, hna⟩ : ∃ l, atI [V.ref p0, V.ref p1, V.ref p2] way = some (.ref l) ∧ H4 l = some (.lst ((lefts way).map V.str)) ∧ H0 l = none := by
      have : way = 0 ∨ way = 1 ∨ way = 2 := by omega
      rcases this with rfl | rfl | rfl
      · exact ⟨p0, rfl, e4 _ _ (e3 _ _ (e2 _ _ h1)), n0⟩
      · exact ⟨p1, rfl, e4 _ _ (e3 _ _ h2), none_ex e1 n1⟩
      · exact ⟨p2, rfl, e4 _ _ h3, none_ex (e1.trans e2) n2⟩
    refine g_ixL (sq_of h4) hat ?_
    walk_at "k"
    refine g_new (sz (of_decide_eq_true rfl)) fun f H5 nf e5 hf b5 => ?_
    walk_at "k"
    obtain ⟨k1, k2, k3, k4, k5⟩ := lefts_ok w0 w2
    have e05 : Ex H0 H5 := (((e1.trans e2).trans e3).trans e4).trans e5
    have s5 := s0.ex e05
    have nf0 : H0 f = none := none_ex (((e1.trans e2).trans e3).trans e4) nf
    have hlf : l ≠ f := fun z => by rw [z, nf] at hl; cases hl
    have hla := s0.na hna
    have hfa := s0.na nf0
    refine g_forR1 (n := many) (fun R hR => ?_) (by omega) (by omega) (fun i σ H => ∃ (o7 o8 : Option V) (acc : List V) (R : List Rl),
      σ = [some (.ref a), some (.int way), some (.int many), some (.int far), some (.int turns), some (.ref l), some (.ref f), o7, o8] ∧ StA H a c (n + 8 * i) ∧ ExB [a, c] H0 H ∧ H l = some (.lst ((lefts way).map V.str)) ∧ H f = some (.lst acc) ∧ Paired (RuleT K H) acc R ∧ R.length ≤ i ∧ Dr way R) ?_ ?_ ?_
    · walk_at "k"
      exact hR
    · exact ⟨none, none, [], [], rfl, s5, exB_of e05, e5 _ _ hl, hf, .nil, Nat.le_refl _, ⟨fun r hr => absurd hr (by simp), List.nodup_nil, fun r hr => absurd hr (by simp), fun r hr => absurd hr (by simp)⟩⟩
    · rintro i σ H hi ⟨o7, o8, acc, R, rfl, st, eH, hlH, hfH, hR, hRi, dr⟩
      walk_at "k"
      refine ⟨hid a c H, a, c, l, n + 8 * i, lefts way, far, turns, rfl, fr_hid st, by omega, sq_of (hid_of hlH hla.1 hla.2), k1, k2, k3, f1, f6, t1, t6, fun H6 v r e6 s6 hv gr g1 g2 => ?_⟩
      have hl6 := exB_at e6 hlH hla.1 hla.2
      have hf6 := exB_at e6 hfH hfa.1 hfa.2
      have hR6 : Paired (RuleT K H6) acc R := prd_mono (fun _ _ z => z.exB (n := n + 8 * i) (m := 0) e6 st) hR
      walk_at "k"
      refine ⟨ty_L hf6, ?_⟩
      walk_at "k"
      by_cases hin : r ∈ R
      · refine g_ninR (b := false) hv (sq_of hf6) hR6 gr dr.good (by rw [decide_eq_true hin]; rfl) ?_
        walk_at "k"
        refine g_new (sz (of_decide_eq_true rfl)) fun m H7 nm e7 hm b7 => ?_
        walk_at "k"
        refine g_ext (e7 _ _ hf6) hm (by have := prd_len hR; simp only [List.length_nil]; omega) fun H8 b8 h8 => ?_
        walk_at "k"
        rw [List.append_nil] at h8
        refine ⟨_, _, acc, R, rfl, ((s6.ex e7).but b8 hfa.1 hfa.2).mono (by omega), exB_but ((eH.trans e6).trans (exB_of e7)) b8 nf0, by rw [b8 l hlf]; exact e7 _ _ hl6, h8, prd_mono (fun _ _ z => (z.ex e7).but b8 (e7 _ _ hf6)) hR6, by omega, dr⟩
      · refine g_ninR (b := true) hv (sq_of hf6) hR6 gr dr.good (by rw [decide_eq_false hin]; rfl) ?_
        walk_at "k"
        refine g_new (sz (of_decide_eq_true rfl)) fun m H7 nm e7 hm b7 => ?_
        walk_at "k"
        refine g_ext (e7 _ _ hf6) hm (by have := prd_len hR; simp only [List.length_cons, List.length_nil]; omega) fun H8 b8 h8 => ?_
        walk_at "k"
        refine ⟨_, _, acc ++ [v], R ++ [r], rfl, ((s6.ex e7).but b8 hfa.1 hfa.2).mono (by omega), exB_but ((eH.trans e6).trans (exB_of e7)) b8 nf0, by rw [b8 l hlf]; exact e7 _ _ hl6, h8, ?_, ?_, ?_⟩
        · exact prd_app (prd_mono (fun _ _ z => (z.ex e7).but b8 (e7 _ _ hf6)) hR6) (.cons ((hv.ex e7).but b8 (e7 _ _ hf6)) .nil)
        · rw [List.length_append]
          simp only [List.length_cons, List.length_nil]
          omega
        · exact dr.snoc gr hin (fun z => k4 (g1 z)) (fun z => k5 (g2 z))
    · rintro σ H ⟨o7, o8, acc, R, rfl, st, eH, hlH, hfH, hR, hRi, dr⟩
      walk_at "k"
      with_reducible refine g_ifS ?_
      walk_at "k"
      have hm6 : R.length ≤ 6 := by omega
      by_cases hw : way = 2
      · rw [decide_eq_true hw]
        walk_at "k"
        refine g_lcQ (a := f) (xs := acc) (G := H) (fun R hR => ?_) (.inl (sq_of hfH)) (fun _ _ z => z) fun L hL => ⟨fun j ac H' => Ex H H' ∧ ac = (R.take j).map fun r => V.bl (!decide (hv r.hi = V.non)), fun H6 b6 e6 _ => ⟨e6, by rw [List.take_zero]; rfl⟩, fun _ _ _ z => z.1, ?_, ?_⟩
        · walk_at "k"
          exact hR
        · rintro j ac y H6 hy hal hL6 ⟨e6, rfl⟩
          obtain ⟨r, hr', b', rfl, hbr⟩ := prd_get hR hy
          refine g_lcs ?_
          walk_at "k"
          refine ⟨rfl, ?_⟩
          walk_at "k"
          refine g_ixT (ex_t e6 hbr) rfl ?_
          walk_at "k"
          refine lcT_of hal (by have := (List.getElem?_eq_some_iff.mp hr').1; omega) hL6 fun H7 b7 h7 => ⟨ex_but e6 hL b7, ?_⟩
          rw [take_snoc hr', List.map_append]
          rfl
        rintro ac H6 _ hL6 ⟨e6, rfl⟩
        rw [prd_len hR, List.take_length] at hL6
        walk_at "k"
        refine g_all (bs := R.map fun r => !decide (hv r.hi = V.non)) (sq_of (by rw [List.map_map]; exact hL6)) ?_
        walk_at "k"
        have hf6 := e6 _ _ hfH
        have hR6 : Paired (RuleT K H6) acc R := prd_mono (fun _ _ z => z.ex e6) hR
        cases hall : (R.map fun r => !decide (hv r.hi = V.non)).all id with
        | true =>
          walk_at "k"
          with_reducible refine g_sl ?_
          walk_at "k"
          with_reducible refine g_nopart ?_
          with_reducible refine g_part ?_
          walk_at "k"
          have hmx : (if many - 1 > 0 then many - 1 else 0) = (if 0 < many - 1 then many - 1 else 0) := rfl
          obtain ⟨mm, hmm, hm0⟩ : ∃ mm : Int, mm = (if many - 1 > 0 then many - 1 else 0) ∧ 0 ≤ mm ∧ mm ≤ 5 := by
            refine ⟨_, rfl, ?_⟩
            split <;> omega
          refine ⟨mm, by rw [hmm], ?_⟩
          refine g_slTo (sq_of hf6) hm0.1 fun p7 H7 n7 e7 h7 => ?_
          walk_at "k"
          have s7 := (st.ex e6).ex e7
          refine ⟨a, c, _, far, rfl, f1, by omega, s7, by omega, fun H8 d e8 s8 d0 d1 => ?_⟩
          have np7 := (st.ex e6).na n7
          have h8 := exB_at e8 h7 np7.1 np7.2
          walk_at "k"
          refine g_newT (sz (of_decide_eq_true rfl)) fun t H9 n9 e9 h9 b9 => ?_
          walk_at "k"
          refine g_new (sz (of_decide_eq_true rfl)) fun p10 H10 n10 e10 h10 b10 => ?_
          refine g_cat (e10 _ _ (e9 _ _ h8)) h10 (by rw [List.length_take]; simp only [List.length_cons, List.length_nil]; omega) fun fz HZ nZ e11 hfZ b11 => ?_
          walk_at "k"
          obtain ⟨rn, hrn⟩ : ∃ rn : Rl, rn = ⟨1 + d, none, "one", 0, 1⟩ := ⟨_, rfl⟩
          have grn : Good rn := by
            rw [hrn]
            exact ⟨(show 0 ≤ 1 + d by omega), (show 1 + d ≤ 12 by omega), .inr (.inl rfl), fun _ => (show 1 ≤ 1 + d by omega), Int.le_refl 1, (show (1 : Int) ≤ 6 by decide), Int.le_refl 0, (show (0 : Int) < 1 by decide), fun _ => ⟨(fun z => s_no3 z.symm), rfl⟩, fun h y => (by cases y)⟩
          have hnot : rn ∉ R.take mm.toNat := fun hin => by
            have h1 := List.all_eq_true.mp hall _ (List.mem_map_of_mem (List.mem_of_mem_take hin))
            rw [hrn] at h1
            cases h1
          have e79 : ExB [a, c] H7 HZ := e8.trans (exB_of ((e9.trans e10).trans e11))
          have eZ : ExB [a, c] H0 HZ := (eH.trans (exB_of (e6.trans e7))).trans e79
          have sZ : StA HZ a c (n + 8 * many.toNat + 1) := ((s8.ex e9).ex e10).ex e11
          obtain ⟨RZ, hRZd⟩ : ∃ RZ, RZ = R.take mm.toNat ++ [rn] := ⟨_, rfl⟩
          have hRZ : Paired (RuleT K HZ) (acc.take mm.toNat ++ [.ref t]) RZ := by
            rw [hRZd]
            refine prd_app (prd_take _ (prd_mono (fun _ _ z => (z.ex e7).exB (n := n + 8 * many.toNat) (m := 0) e79 s7) hR6)) (.cons ⟨t, rfl, ?_⟩ .nil)
            rw [hrn]
            exact ex_t (e10.trans e11) (st_of h9)
          have drZ : Dr way RZ := by
            rw [hRZd]
            exact (dr.take _).snoc grn hnot (fun _ => hw) (fun z => by rw [hrn] at z; exact absurd (show ("one" : Str) = "two" from z).symm s_no3)
          have gZ : Goods RZ := drZ.goods (by
            rw [hRZd, List.length_append, List.length_take]
            simp only [List.length_cons, List.length_nil]
            omega)
          have hsz : n + 8 * many.toNat + 1 ≤ n + 60 := by omega
          walk_at "k"
          obtain ⟨zs, z1, z2, z3⟩ := prd_zip hRZ
          have hlz : SqL K HZ fz (zs.map (·.1)) := by
            rw [z1]
            exact sq_of hfZ
          have hkz : ∀ z ∈ zs, spLine K [z.1] HZ (fun v H' => v = .str (line z.2) ∧ H' = HZ) (fun _ _ _ => False) := fun z hz => by
            refine ⟨z.1, z.2, rfl, z3 z hz, gZ.good z.2 ?_, rfl, rfl⟩
            rw [← z2]
            exact List.mem_map_of_mem hz
          refine ⟨fz, zs, rfl, rfl, hlz, hkz, ?_⟩
          intro p (ys : List (V × Rl)) np hys hsrt
          have hm : ∀ z : V × Rl, z ∈ ys → RuleT K HZ z.1 z.2 := fun z hz => z3 z (hys.mem_iff.mp hz)
          have hpp := rules_out np hm
          have hpe : (ys.map (·.2)).Perm RZ := by
            rw [← z2]
            exact hys.map _
          have hss := srt_map hsrt
          have eP : Ex HZ (upd HZ p (.lst (ys.map (·.1)))) := Evl.Ex.new np
          have z9 : upd HZ p (.lst (ys.map (·.1))) p = some (.lst (ys.map (·.1))) := upd_same
          exact q _ p _ (ys.map (·.2)) (eZ.trans (exB_of eP)) ((sZ.ex eP).mono (by omega)) (exB_none eZ sZ np) z9 hpp (gZ.perm hpe) hss
        | false =>
          walk_at "k"
          have gZ := dr.goods hm6
          obtain ⟨fz, hfz⟩ : ∃ fz, fz = f := ⟨_, rfl⟩
          obtain ⟨HZ, hHZ⟩ : ∃ HZ, HZ = H6 := ⟨_, rfl⟩
          obtain ⟨RZ, hRZe⟩ : ∃ RZ, RZ = R := ⟨_, rfl⟩
          have hRZ := hR6
          have hfZ := hf6
          have eZ : ExB [a, c] H0 H6 := eH.trans (exB_of e6)
          have sZ := st.ex e6
          rw [← hfz, ← hHZ] at hfZ
          rw [← hHZ, ← hRZe] at hRZ
          rw [← hHZ] at eZ sZ
          rw [← hRZe] at gZ
          rw [← hfz, ← hHZ]
          walk_at "k"
          obtain ⟨zs, z1, z2, z3⟩ := prd_zip hRZ
          have hlz : SqL K HZ fz (zs.map (·.1)) := by
            rw [z1]
            exact sq_of hfZ
          have hkz : ∀ z ∈ zs, spLine K [z.1] HZ (fun v H' => v = .str (line z.2) ∧ H' = HZ) (fun _ _ _ => False) := fun z hz => by
            refine ⟨z.1, z.2, rfl, z3 z hz, gZ.good z.2 ?_, rfl, rfl⟩
            rw [← z2]
            exact List.mem_map_of_mem hz
          refine ⟨fz, zs, rfl, rfl, hlz, hkz, ?_⟩
          intro p (ys : List (V × Rl)) np hys hsrt
          have hm : ∀ z : V × Rl, z ∈ ys → RuleT K HZ z.1 z.2 := fun z hz => z3 z (hys.mem_iff.mp hz)
          have hpp := rules_out np hm
          have hpe : (ys.map (·.2)).Perm RZ := by
            rw [← z2]
            exact hys.map _
          have hss := srt_map hsrt
          have eP : Ex HZ (upd HZ p (.lst (ys.map (·.1)))) := Evl.Ex.new np
          have z9 : upd HZ p (.lst (ys.map (·.1))) p = some (.lst (ys.map (·.1))) := upd_same
          exact q _ p _ (ys.map (·.2)) (eZ.trans (exB_of eP)) ((sZ.ex eP).mono (by omega)) (exB_none eZ sZ np) z9 hpp (gZ.perm hpe) hss
      · rw [decide_eq_false hw]
        walk_at "k"
        have gZ := dr.goods hm6
        obtain ⟨fz, hfz⟩ : ∃ fz, fz = f := ⟨_, rfl⟩
        obtain ⟨HZ, hHZ⟩ : ∃ HZ, HZ = H := ⟨_, rfl⟩
        obtain ⟨RZ, hRZe⟩ : ∃ RZ, RZ = R := ⟨_, rfl⟩
        have hRZ := hR
        have hfZ := hfH
        have eZ := eH
        have sZ := st
        rw [← hfz, ← hHZ] at hfZ
        rw [← hHZ, ← hRZe] at hRZ
        rw [← hHZ] at eZ sZ
        rw [← hRZe] at gZ
        rw [← hfz, ← hHZ]
        walk_at "k"
        obtain ⟨zs, z1, z2, z3⟩ := prd_zip hRZ
        have hlz : SqL K HZ fz (zs.map (·.1)) := by
          rw [z1]
          exact sq_of hfZ
        have hkz : ∀ z ∈ zs, spLine K [z.1] HZ (fun v H' => v = .str (line z.2) ∧ H' = HZ) (fun _ _ _ => False) := fun z hz => by
          refine ⟨z.1, z.2, rfl, z3 z hz, gZ.good z.2 ?_, rfl, rfl⟩
          rw [← z2]
          exact List.mem_map_of_mem hz
        refine ⟨fz, zs, rfl, rfl, hlz, hkz, ?_⟩
        intro p (ys : List (V × Rl)) np hys hsrt
        have hm : ∀ z : V × Rl, z ∈ ys → RuleT K HZ z.1 z.2 := fun z hz => z3 z (hys.mem_iff.mp hz)
        have hpp := rules_out np hm
        have hpe : (ys.map (·.2)).Perm RZ := by
          rw [← z2]
          exact hys.map _
        have hss := srt_map hsrt
        have eP : Ex HZ (upd HZ p (.lst (ys.map (·.1)))) := Evl.Ex.new np
        have z9 : upd HZ p (.lst (ys.map (·.1))) p = some (.lst (ys.map (·.1))) := upd_same
        exact q _ p _ (ys.map (·.2)) (eZ.trans (exB_of eP)) ((sZ.ex eP).mono (by omega)) (exB_none eZ sZ np) z9 hpp (gZ.perm hpe) hss
end
end Tk
namespace Tk
open PySem PySem.Spec PyProof.Rows L2
open Evl (Ex ex_l ex_t ex_rd sq_of st_of fresh_back)
local macro_rules | `(tactic| walk_at "g") => `(tactic| (repeat (first
  | (with_reducible refine g_seq ?_) | (with_reducible refine g_asg ?_) | (with_reducible refine g_name ?_) | (with_reducible refine g_sub ?_)
  | ((with_reducible refine' g_var ?e ?_); (case e => exact rfl)) | (with_reducible refine g_c ?_) | (with_reducible refine g_op ?_) | (with_reducible refine g_un ?_) | (with_reducible refine g_U ?_)
  | (with_reducible refine g_I0 ?_) | (with_reducible refine g_eqI ?_) | (with_reducible refine g_neI ?_) | (with_reducible refine g_eqS ?_) | (with_reducible refine g_neS ?_) | (with_reducible refine g_eqB ?_) | (with_reducible refine g_neB ?_)
  | (with_reducible refine g_test ?_) | (with_reducible refine g_tB ?_) | (with_reducible refine g_bl ?_) | (with_reducible refine g_and ?_) | (with_reducible refine g_or ?_) | (with_reducible refine g_not ?_)
  | (with_reducible refine g_andV ?_) | (with_reducible refine g_orV ?_) | (with_reducible refine g_notV ?_) | (with_reducible refine g_ifE ?_) | (with_reducible refine g_ifS ?_)
  | (with_reducible refine g_next ?_) | (with_reducible refine g_ret ?_) | (with_reducible refine g_drop ?_) | (with_reducible refine g_nil ?_) | (with_reducible refine g_cons ?_) | (with_reducible refine g_call ?_)
  | (with_reducible refine g_cb ?_) | (with_reducible refine g_bm ?_) | (with_reducible refine g_lst ?_) | (with_reducible refine g_tup ?_) | (with_reducible refine iteT ?_) | (with_reducible refine iteF ?_) | (with_reducible refine g_nt ?_) | (with_reducible refine g_nf ?_)
  | (with_reducible refine g_par ?_) | (with_reducible refine g_par3 ?_) | (with_reducible refine g_two ?_) | (with_reducible refine g_three ?_) | (with_reducible refine g_ckw ?_) | (with_reducible refine g_yes ?_) | (with_reducible refine g_chain ?_) | (with_reducible refine g_gnil ?_) | (with_reducible refine g_gcons ?_) | (with_reducible refine g_fld ?_) | (with_reducible refine g_sfld ?_) | (with_reducible refine g_isN ?_) | (with_reducible refine g_nint ?_) | (with_reducible refine g_nintB ?_) | (with_reducible refine g_max ?_) | (with_reducible refine g_min ?_))))
local macro_rules | `(tactic| walk_at "k") => `(tactic| (repeat (first
  | (with_reducible refine g_seq ?_) | (with_reducible refine g_asg ?_) | (with_reducible refine g_name ?_) | (with_reducible refine g_sub ?_)
  | ((with_reducible refine' g_var ?e ?_); (case e => exact rfl)) | (with_reducible refine g_c ?_) | (with_reducible refine g_op ?_) | (with_reducible refine g_un ?_) | (with_reducible refine g_U ?_)
  | (with_reducible refine g_I0 ?_) | (with_reducible refine g_eqI ?_) | (with_reducible refine g_neI ?_) | (with_reducible refine g_eqS ?_) | (with_reducible refine g_neS ?_) | (with_reducible refine g_eqB ?_) | (with_reducible refine g_neB ?_)
  | (with_reducible refine g_test ?_) | (with_reducible refine g_tB ?_) | (with_reducible refine g_bl ?_) | (with_reducible refine g_and ?_) | (with_reducible refine g_or ?_) | (with_reducible refine g_not ?_)
  | (with_reducible refine g_andV ?_) | (with_reducible refine g_orV ?_) | (with_reducible refine g_notV ?_) | (with_reducible refine g_ifE ?_)
  | (with_reducible refine g_next ?_) | (with_reducible refine g_ret ?_) | (with_reducible refine g_drop ?_) | (with_reducible refine g_nil ?_) | (with_reducible refine g_cons ?_) | (with_reducible refine g_call ?_)
  | (with_reducible refine g_cb ?_) | (with_reducible refine g_bm ?_) | (with_reducible refine g_lst ?_) | (with_reducible refine g_tup ?_) | (with_reducible refine iteT ?_) | (with_reducible refine iteF ?_) | (with_reducible refine g_nt ?_) | (with_reducible refine g_nf ?_)
  | (with_reducible refine g_par ?_) | (with_reducible refine g_par3 ?_) | (with_reducible refine g_two ?_) | (with_reducible refine g_three ?_) | (with_reducible refine g_ckw ?_) | (with_reducible refine g_yes ?_) | (with_reducible refine g_chain ?_) | (with_reducible refine g_gnil ?_) | (with_reducible refine g_gcons ?_) | (with_reducible refine g_fld ?_) | (with_reducible refine g_sfld ?_) | (with_reducible refine g_isN ?_) | (with_reducible refine g_nint ?_) | (with_reducible refine g_nintB ?_) | (with_reducible refine g_max ?_) | (with_reducible refine g_min ?_))))
def spBook (K : PySem.W.Frag) : Sp := fun vs H Q _ => ∃ (a c : Addr) (n : Nat), vs = [.ref a] ∧ StA H a c n ∧ n + 200 < 1000000000 ∧ ∀ H' p ys R, ExB [a, c] H H' → StA H' a c (n + 70) → H p = none → H' p = some (.lst ys) → Paired (RuleT K H') ys R → Goods R → Srt R → Q (.ref p) H'
/-! ### data up to list or tuple -/
mutual
def strip : PyData → PyData
  | .list xs => .list (stripAll xs)
  | .tuple xs => .list (stripAll xs)
  | d => d
def stripAll : List PyData → List PyData
  | [] => []
  | d :: ds => strip d :: stripAll ds
end
def atom (d : PyData) : Prop := d = .none ∨ (∃ b, d = .bool b) ∨ (∃ i, d = .int i) ∨ ∃ s, d = .str s
/-- data of k levels -/
def Wd : Nat → PyData → Prop
  | 0, d => atom d
  | k + 1, d => atom d ∨ ∃ ds, (d = .list ds ∨ d = .tuple ds) ∧ ds.length ≤ 10 ∧ ∀ e ∈ ds, Wd k e
def costL : Nat → Nat
  | 0 => 0
  | k + 1 => 10 * costL k + 1
def spLoose (K : PySem.W.Frag) (k : Nat) : Sp := fun vs H Q _ => ∃ (G : Hp) (a c : Addr) (n : Nat) (v : V), vs = [.ref a, v] ∧ Fr G H a c n ∧ n + costL k < 1000000000 ∧
  ((∃ d, Dp K G v d ∧ Wd k d ∧ ∀ H' v' d', ExB [a, c] H H' → StA H' a c (n + costL k) → Dp K (newH H H') v' d' → strip d' = strip d → Q v' H') ∨
   (∃ e kvs, v = .ref e ∧ G e = some (.dK kvs) ∧ ∀ H', ExB [a, c] H H' → StA H' a c (n + costL k) → Q v H'))
def spPrev (K : PySem.W.Frag) : Nat → Sp
  | 0 => fun _ _ _ _ => False
  | k + 1 => spLoose K k
theorem atom_n {K : PySem.W.Frag} {H : Hp} {v : V} {d : PyData} (h : Dp K H v d) (a : atom d) : NSeq H v ∧ (∀ H', Dp K H' v d) := by
  rcases a with rfl | ⟨b, rfl⟩ | ⟨i, rfl⟩ | ⟨s, rfl⟩
  · cases h
    exact ⟨.inl rfl, fun _ => .non⟩
  · cases h
    exact ⟨.inr (.inl ⟨_, rfl⟩), fun _ => .bl _⟩
  · cases h
    exact ⟨.inr (.inr (.inl ⟨_, rfl⟩)), fun _ => .int _⟩
  · cases h
    exact ⟨.inr (.inr (.inr (.inl ⟨_, rfl⟩))), fun _ => .str _⟩
theorem dpAll_len {K : PySem.W.Frag} {H : Hp} : ∀ {vs : List V} {ds : List PyData}, DpAll K H vs ds → vs.length = ds.length
  | _, _, .nil => rfl
  | _, _, .cons a t => by rw [List.length_cons, List.length_cons, dpAll_len t]
theorem dpAll_get {K : PySem.W.Frag} {H : Hp} : ∀ {vs : List V} {ds : List PyData}, DpAll K H vs ds → ∀ {i : Nat} {x : V}, vs[i]? = some x → ∃ d, ds[i]? = some d ∧ Dp K H x d
  | _, _, .nil, i, x, h => by simp at h
  | _, _, .cons a t, 0, x, h => by
    simp only [List.getElem?_cons_zero, Option.some.injEq] at h
    subst h
    exact ⟨_, rfl, a⟩
  | _, _, .cons a t, i + 1, x, h => by
    simp only [List.getElem?_cons_succ] at h ⊢
    exact dpAll_get t h
mutual
theorem dp_ex {K : PySem.W.Frag} {H H' : Hp} (e : Ex H H') : ∀ (d : PyData) (v : V), Dp K H v d → Dp K H' v d
  | .none, v, h => by cases h; exact .non
  | .bool b, v, h => by cases h; exact .bl b
  | .int i, v, h => by cases h; exact .int i
  | .str x, v, h => by cases h; exact .str x
  | .list ds, v, h => by
    cases h with
    | lst h1 h2 => exact .lst (ex_l e h1) (dpAll_ex e ds _ h2)
  | .tuple ds, v, h => by
    cases h with
    | tup h1 h2 => exact .tup (ex_t e h1) (dpAll_ex e ds _ h2)
  | .dict _, v, h => by cases h
theorem dpAll_ex {K : PySem.W.Frag} {H H' : Hp} (e : Ex H H') : ∀ (ds : List PyData) (vs : List V), DpAll K H vs ds → DpAll K H' vs ds
  | [], _, h => by cases h; exact .nil
  | d :: ds, _, h => by
    cases h with
    | cons h1 h2 => exact .cons (dp_ex e d _ h1) (dpAll_ex e ds _ h2)
end
theorem dpAll_snoc {K : PySem.W.Frag} {H : Hp} {v : V} {d : PyData} (h : Dp K H v d) : ∀ {vs : List V} {ds : List PyData}, DpAll K H vs ds → DpAll K H (vs ++ [v]) (ds ++ [d])
  | _, _, .nil => .cons h .nil
  | _, _, .cons a t => .cons a (dpAll_snoc h t)
theorem stripAll_app : ∀ a b : List PyData, stripAll (a ++ b) = stripAll a ++ stripAll b
  | [], b => by simp [stripAll]
  | d :: a, b => by simp [stripAll, stripAll_app a b]
theorem strip_seq {d e : PyData} {ds es : List PyData} (h : stripAll ds = stripAll es) (h1 : d = .list ds ∨ d = .tuple ds) (h2 : e = .list es ∨ e = .tuple es) : strip d = strip e := by
  rcases h1 with rfl | rfl <;> rcases h2 with rfl | rfl <;> simp [strip, h]
section
variable {P : Program} {w : World} {K : PySem.W.Frag} {mg : Str → Option Value} {base : Heap}
theorem keptF {k : Nat} {x : Str} {ps : List Str} {st : Stmt} (D : ∃ fd, DefAt K mg x st ps fd) : Kept P w K mg base CX0 k x ps (fun _ _ _ _ => False) := by
  obtain ⟨fd, D⟩ := D
  exact ⟨st, fd, D, fun _ _ _ _ h => h.elim, fun _ _ _ _ _ _ _ _ _ _ _ _ _ h => h.elim⟩
theorem sc_w_a_book : FnScope ["_law_stream"] ["_law_stream"] (defScope st_w_a_book) := ⟨rfl, rfl, rfl, by decide +kernel, rfl, by decide +kernel, by decide +kernel⟩
theorem ok_w_a_book (T : Txt K mg) : Kept P w K mg base CX0 5 "_law_a_book" ["_law_stream"] (spBook K) := by
  have G_w_draw := ok_w_draw (P := P) (w := w) (base := base) T
  have G_w_pick := ok_w_pick (P := P) (w := w) (base := base) T
  have G_w_a_rules := ok_w_a_rules (P := P) (w := w) (base := base) T
  refine kept0 T.d_w_a_book sc_w_a_book (fun vs H Q E h => ?_) (fun cdv A outer s H0 vs Q E hr h => ?_)
  · obtain ⟨a, c, n, rfl, _⟩ := h
    rfl
  · obtain ⟨a, c, n, rfl, s0, hn, q⟩ := h
    refine ⟨_, (pss_one (ps_ret (pe_c G_w_a_rules (hr.mono (by decide)) pass0 (pa_cons (pv 0) (pa_cons (pe_c G_w_pick (hr.mono (by decide)) pass0 (pa_cons (pv 0) (pa_cons (pe_lst (pa_cons pe_int (pa_cons pe_int (pa_cons pe_int (pa_cons pe_int pa_nil))))) pa_nil))) (pa_cons (pe_c G_w_draw (hr.mono (by decide)) pass0 (pa_cons (pv 0) (pa_cons pe_int pa_nil))) (pa_cons pe_int (pa_cons pe_int pa_nil)))))))), ?_⟩
    walk_at "k"
    refine g_new (sz (of_decide_eq_true rfl)) fun l H1 nl e1 hl b1 => ?_
    have na := s0.na nl
    walk_at "k"
    refine ⟨hid a c H1, a, c, l, n, [.int 0, .int 0, .int 1, .int 2], rfl, fr_hid (s0.ex e1), by omega, sq_of (hid_of hl na.1 na.2), by decide, by decide, fun H2 x e2 s2 hx => ?_⟩
    obtain ⟨way, rfl, w0, w2⟩ : ∃ way : Int, x = .int way ∧ 0 ≤ way ∧ way ≤ 2 := by
      simp only [List.mem_cons, List.not_mem_nil, or_false] at hx
      rcases hx with rfl | rfl | rfl | rfl
      · exact ⟨0, rfl, by decide, by decide⟩
      · exact ⟨0, rfl, by decide, by decide⟩
      · exact ⟨1, rfl, by decide, by decide⟩
      · exact ⟨2, rfl, by decide, by decide⟩
    walk_at "k"
    refine ⟨a, c, n + 1, 5, rfl, by decide, by decide, s2, by omega, fun H3 d e3 s3 d0 d1 => ?_⟩
    walk_at "k"
    refine ⟨a, c, n + 2, way, d, 3, 3, rfl, s3, by omega, w0, w2, d0, by omega, by decide, by decide, by decide, by decide, fun H4 p ys R e4 s4 np hp hys g hs => ?_⟩
    have e03 := ((exB_of (S := [a, c]) e1).trans e2).trans e3
    exact q H4 p ys R (e03.trans e4) (s4.mono (by omega)) (exB_none e03 s3 np) hp hys g hs
theorem sc_w_b_wide : FnScope ["_law_stream", "_law_way"] ["_law_stream"] (defScope st_w_b_wide) := ⟨rfl, rfl, rfl, by decide +kernel, rfl, by decide +kernel, by decide +kernel⟩
theorem ok_w_b_wide (T : Txt K mg) : Kept P w K mg base CX0 5 "_law_b_wide" ["_law_stream"] (spBook K) := by
  have G_w_draw := ok_w_draw (P := P) (w := w) (base := base) T
  have G_w_a_rules := ok_w_a_rules (P := P) (w := w) (base := base) T
  refine kept0 T.d_w_b_wide sc_w_b_wide (fun vs H Q E h => ?_) (fun cdv A outer s H0 vs Q E hr h => ?_)
  · obtain ⟨a, c, n, rfl, _⟩ := h
    rfl
  · obtain ⟨a, c, n, rfl, s0, hn, q⟩ := h
    refine ⟨_, (pss_cons (ps_set (i := 1) sc_w_b_wide.nd rfl (Or.inl rfl) (pe_c G_w_draw (hr.mono (by decide)) pass0 (pa_cons (pv 0) (pa_cons pe_int pa_nil))))
      (pss_one (ps_ret (pe_c G_w_a_rules (hr.mono (by decide)) pass0 (pa_cons (pv 0) (pa_cons (pv 1) (pa_cons (pe_ifExp (pt_cmpR op_eq (pv 1) pe_int (nomark _)) pe_int pe_int) (pa_cons pe_int (pa_cons pe_int pa_nil))))))))), ?_⟩
    walk_at "k"
    refine ⟨a, c, n, 3, rfl, by decide, by decide, s0, by omega, fun H1 way e1 s1 w0 w2 => ?_⟩
    walk_at "k"
    have go : ∀ m : Int, 0 ≤ m → m ≤ 6 → spRules K [.ref a, .int way, .int m, .int 6, .int 6] H1 Q (fun _ _ _ => False) := fun m m0 m6 =>
      ⟨a, c, n + 1, way, m, 6, 6, rfl, s1, by omega, w0, by omega, m0, m6, by decide, by decide, by decide, by decide, fun H4 p ys R e4 s4 np hp hys g hs => q H4 p ys R (e1.trans e4) (s4.mono (by omega)) (exB_none e1 s1 np) hp hys g hs⟩
    by_cases hw : way = 2
    · rw [decide_eq_true hw]
      walk_at "k"
      exact go 5 (by decide) (by decide)
    · rw [decide_eq_false hw]
      walk_at "k"
      exact go 6 (by decide) (by decide)
theorem sc_w_loose : FnScope ["_law_stream", "_law_thing", "_law_found", "_law_part"] ["_law_stream", "_law_thing"] (defScope st_w_loose) := ⟨rfl, rfl, rfl, by decide +kernel, rfl, by decide +kernel, by decide +kernel⟩
theorem ok_w_loose (T : Txt K mg) : ∀ k : Nat, Kept P w K mg base CX0 (2 + k) "_law_loose" ["_law_stream", "_law_thing"] (spLoose K k) := by
  intro k
  have G_w_draw := ok_w_draw (P := P) (w := w) (base := base) T
  have G_w_loose : Kept P w K mg base CX0 (1 + k) "_law_loose" ["_law_stream", "_law_thing"] (spPrev K k) := by
    cases k with
    | zero => exact keptF T.d_w_loose
    | succ k =>
      have := ok_w_loose T k
      exact this.mono (by omega)
  have e : 2 + k = (1 + k) + 1 := by omega
  rw [e]
  refine kept0 T.d_w_loose sc_w_loose (fun vs H Q E h => ?_) (fun cdv A outer s H0 vs Q E hr h => ?_)
  · obtain ⟨G, a, c, n, v, rfl, _⟩ := h
    rfl
  · obtain ⟨G, a, c, n, v, rfl, f, hn, q⟩ := h
    refine ⟨_, (pss_cons (ps_if (pt_not (pt_val (pe_callB call_isiT (by rfl) T.f_isinstance (by decide +kernel) (pa_cons (pv 1) (pa_cons (pe_tup (pa_cons (pe_bltn (v := .ty "list") (by rfl) T.f_list (by decide +kernel) rfl) (pa_cons (pe_bltn (v := .ty "tuple") (by rfl) T.f_tuple (by decide +kernel) rfl) pa_nil))) pa_nil))))) (pss_one (ps_ret (pv 1))) pss_nil)
      (pss_cons (ps_setLc (i := 2) rfl (own := [("_law_part", 3)]) sc_w_loose.nd rfl rfl (sw_true rfl rfl rfl (by decide +kernel)) (pi_q (pv 1)) (blkOk_by (own := [("_law_part", 3)]) (N := ["_law_stream", "_law_thing", "_law_found", "_law_part"]) (sc := defScope st_w_loose) (by decide +kernel)) (fun _ _ _ _ _ => (pg_name (i := 3) sc_w_loose.nd rfl (Or.inl rfl))) (fun _ _ _ _ _ => pts_nil) (fun _ _ _ _ _ => (pe_c G_w_loose (hr.mono (by omega)) pass0 (pa_cons (pv 0) (pa_cons (pv 3) pa_nil)))))
      (pss_one (ps_ret (pe_ifExp (pt_cmpR op_eq (pe_c G_w_draw (hr.mono (by omega)) pass0 (pa_cons (pv 0) (pa_cons pe_int pa_nil))) pe_int (nomark _)) (pv 2) (pe_callTy cTup (by rfl) T.f_tuple (by decide +kernel) (pa_cons (pv 2) pa_nil))))))), ?_⟩
    walk_at "k"
    with_reducible refine g_ifS ?_
    walk_at "k"
    refine g_newT (sz (of_decide_eq_true rfl)) fun tp H1 ntp e1 htp b1 => ?_
    walk_at "k"
    have s1 := f.st.ex e1
    have x1 : ExB [a, c] H0 H1 := exB_of e1
    have hls := f.st.ls
    rcases q with ⟨d, hd, wd, q⟩ | ⟨e', kvs, rfl, he, q⟩
    · by_cases hat : atom d
      · obtain ⟨hns, hdp⟩ := atom_n hd hat
        refine g_isiNo htp (hns.ex (f.ex.trans e1)) ?_
        walk_at "k"
        exact q H1 v d x1 (s1.mono (by omega)) (hdp _) rfl
      · cases k with
        | zero => exact absurd wd hat
        | succ k =>
          rcases wd with wd | ⟨ds, hds, hl10, hwd⟩
          · exact absurd wd hat
          · obtain ⟨a', xs, rfl, hs, hall⟩ : ∃ a' xs, v = .ref a' ∧ Seq K G a' xs ∧ DpAll K G xs ds := by
              rcases hds with rfl | rfl
              · cases hd with
                | lst h1 h2 => exact ⟨_, _, rfl, .inl h1, h2⟩
              · cases hd with
                | tup h1 h2 => exact ⟨_, _, rfl, .inr h1, h2⟩
            have hxl := dpAll_len hall
            refine g_isiSeq htp (hs.ex (f.ex.trans e1)) ?_
            walk_at "k"
            have hcost : costL (k + 1) = 10 * costL k + 1 := rfl
            refine g_lcQ (a := a') (xs := xs) (G := G) (fun R hR => ?_) hs (f.ex.trans e1) fun L hL => ⟨fun i ac H => ExB [a, c] H0 H ∧ StA H a c (n + i * costL k) ∧ ∃ ds', DpAll K (del (newH H0 H) L) ac ds' ∧ stripAll ds' = stripAll (ds.take i), fun H4 b4 e4 _ => ⟨x1.trans (exB_of e4), (s1.ex e4).mono (by omega), [], .nil, rfl⟩, fun _ _ _ z => exB_keep z.1 f.ex f.ga f.gc, ?_, ?_⟩
            · walk_at "k"
              exact hR
            · rintro i ac y H hy hal hLH ⟨xH, sH, ds', hd', hst⟩
              obtain ⟨di, hdi, hdy⟩ := dpAll_get hall hy
              have hil := (List.getElem?_eq_some_iff.mp hdi).1
              have him : i * costL k ≤ 9 * costL k := Nat.mul_le_mul_right _ (by omega)
              have nL0 : H0 L = none := none_ex e1 hL
              have hLa := s1.na hL
              refine g_lcs ?_
              walk_at "k"
              refine ⟨rfl, ?_⟩
              walk_at "k"
              refine ⟨G, a, c, n + i * costL k, y, rfl, f.nx xH sH, by omega, .inl ⟨di, hdy, hwd di (List.mem_of_getElem? hdi), fun H2 v' d' x2 s2 hv' hs' => ?_⟩⟩
              have hL2 := exB_at x2 hLH hLa.1 hLa.2
              refine lcT_of hal (by omega) hL2 fun H3 b3 h3 => ⟨exB_but (xH.trans x2) b3 nL0, ?_, ds' ++ [d'], ?_, ?_⟩
              · refine (s2.but b3 hLa.1 hLa.2).mono ?_
                rw [Nat.succ_mul]
                omega
              · have k1 : Ex (del (newH H0 H) L) (del (newH H0 H3) L) := fun q o z => by
                  by_cases hq : q = L
                  · rw [hq, del_same] at z
                    cases z
                  · rw [del_ne hq] at z ⊢
                    have z2 := new_12 xH hls x2 q o z
                    cases z0 : H0 q with
                    | none =>
                      rw [new_none z0] at z2 ⊢
                      rw [b3 q hq]
                      exact z2
                    | some u =>
                      rw [new_some z0] at z2 ⊢
                      exact z2
                have k2 : Ex (newH H H2) (del (newH H0 H3) L) := fun q o z => by
                  have hq : q ≠ L := fun y => by
                    rw [y, new_some hLH] at z
                    cases z
                  rw [del_ne hq]
                  have z2 := new_23 xH hls sH.ls x2 q o z
                  cases z0 : H0 q with
                  | none =>
                    rw [new_none z0] at z2 ⊢
                    rw [b3 q hq]
                    exact z2
                  | some u =>
                    rw [new_some z0] at z2 ⊢
                    exact z2
                exact dpAll_snoc (dp_ex k2 _ _ hv') (dpAll_ex k1 _ _ hd')
              · rw [take_snoc hdi, stripAll_app, stripAll_app, hst]
                simp [stripAll, hs']
            rintro ac H hal hLH ⟨xH, sH, ds', hd', hst⟩
            rw [hxl, List.take_length] at hst
            have nL0 : H0 L = none := none_ex e1 hL
            have hLa := s1.na hL
            have him : xs.length * costL k ≤ 10 * costL k := Nat.mul_le_mul_right _ (by omega)
            walk_at "k"
            refine ⟨a, c, n + xs.length * costL k, 3, rfl, by decide, by decide, sH, by omega, fun H2 dr x2 s2 d0 d1 => ?_⟩
            have hL2 := exB_at x2 hLH hLa.1 hLa.2
            have hN : DpAll K (newH H0 H2) ac ds' := dpAll_ex (del_ex.trans (new_12 xH hls x2)) _ _ hd'
            walk_at "k"
            by_cases h0 : dr = 0
            · rw [decide_eq_true h0]
              walk_at "k"
              refine q H2 (.ref L) (.list ds') (xH.trans x2) (s2.mono (by omega)) (.lst (sq_of ?_) hN) (strip_seq hst (.inl rfl) hds)
              rw [new_none nL0]
              exact hL2
            · rw [decide_eq_false h0]
              walk_at "k"
              refine g_tupL (sq_of hL2) fun t H3 nt e3 ht b3 => ?_
              have nt0 := exB_none (xH.trans x2) s2 nt
              refine q H3 (.ref t) (.tuple ds') ((xH.trans x2).trans (exB_of e3)) ((s2.ex e3).mono (by omega)) (.tup (st_of ?_) (dpAll_ex (new_12 (xH.trans x2) hls (exB_of e3)) _ _ hN)) (strip_seq hst (.inr rfl) hds)
              rw [new_none nt0]
              exact ht
    · refine g_isiNo htp (.inr (.inr (.inr (.inr ⟨e', kvs, rfl, e1 _ _ (f.ex _ _ he)⟩)))) ?_
      walk_at "k"
      exact q H1 x1 (s1.mono (by omega))
end
end Tk
namespace Tk
open PySem PySem.Spec PyProof.Rows L2
open Evl (Ex ex_l ex_t ex_rd sq_of st_of fresh_back)
local macro_rules | `(tactic| walk_at "g") => `(tactic| (repeat (first
  | (with_reducible refine g_seq ?_) | (with_reducible refine g_asg ?_) | (with_reducible refine g_name ?_) | (with_reducible refine g_sub ?_)
  | ((with_reducible refine' g_var ?e ?_); (case e => exact rfl)) | (with_reducible refine g_c ?_) | (with_reducible refine g_op ?_) | (with_reducible refine g_un ?_) | (with_reducible refine g_U ?_)
  | (with_reducible refine g_I0 ?_) | (with_reducible refine g_eqI ?_) | (with_reducible refine g_neI ?_) | (with_reducible refine g_eqS ?_) | (with_reducible refine g_neS ?_) | (with_reducible refine g_eqB ?_) | (with_reducible refine g_neB ?_)
  | (with_reducible refine g_test ?_) | (with_reducible refine g_tB ?_) | (with_reducible refine g_bl ?_) | (with_reducible refine g_and ?_) | (with_reducible refine g_or ?_) | (with_reducible refine g_not ?_)
  | (with_reducible refine g_andV ?_) | (with_reducible refine g_orV ?_) | (with_reducible refine g_notV ?_) | (with_reducible refine g_ifE ?_) | (with_reducible refine g_ifS ?_)
  | (with_reducible refine g_next ?_) | (with_reducible refine g_ret ?_) | (with_reducible refine g_drop ?_) | (with_reducible refine g_nil ?_) | (with_reducible refine g_cons ?_) | (with_reducible refine g_call ?_)
  | (with_reducible refine g_cb ?_) | (with_reducible refine g_bm ?_) | (with_reducible refine g_lst ?_) | (with_reducible refine g_tup ?_) | (with_reducible refine iteT ?_) | (with_reducible refine iteF ?_) | (with_reducible refine g_nt ?_) | (with_reducible refine g_nf ?_)
  | (with_reducible refine g_par ?_) | (with_reducible refine g_par3 ?_) | (with_reducible refine g_two ?_) | (with_reducible refine g_three ?_) | (with_reducible refine g_ckw ?_) | (with_reducible refine g_yes ?_) | (with_reducible refine g_chain ?_) | (with_reducible refine g_gnil ?_) | (with_reducible refine g_gcons ?_) | (with_reducible refine g_fld ?_) | (with_reducible refine g_sfld ?_) | (with_reducible refine g_isN ?_) | (with_reducible refine g_nint ?_) | (with_reducible refine g_nintB ?_) | (with_reducible refine g_max ?_) | (with_reducible refine g_min ?_))))
local macro_rules | `(tactic| walk_at "k") => `(tactic| (repeat (first
  | (with_reducible refine g_seq ?_) | (with_reducible refine g_asg ?_) | (with_reducible refine g_name ?_) | (with_reducible refine g_sub ?_)
  | ((with_reducible refine' g_var ?e ?_); (case e => exact rfl)) | (with_reducible refine g_c ?_) | (with_reducible refine g_op ?_) | (with_reducible refine g_un ?_) | (with_reducible refine g_U ?_)
  | (with_reducible refine g_I0 ?_) | (with_reducible refine g_eqI ?_) | (with_reducible refine g_neI ?_) | (with_reducible refine g_eqS ?_) | (with_reducible refine g_neS ?_) | (with_reducible refine g_eqB ?_) | (with_reducible refine g_neB ?_)
  | (with_reducible refine g_test ?_) | (with_reducible refine g_tB ?_) | (with_reducible refine g_bl ?_) | (with_reducible refine g_and ?_) | (with_reducible refine g_or ?_) | (with_reducible refine g_not ?_)
  | (with_reducible refine g_andV ?_) | (with_reducible refine g_orV ?_) | (with_reducible refine g_notV ?_) | (with_reducible refine g_ifE ?_)
  | (with_reducible refine g_next ?_) | (with_reducible refine g_ret ?_) | (with_reducible refine g_drop ?_) | (with_reducible refine g_nil ?_) | (with_reducible refine g_cons ?_) | (with_reducible refine g_call ?_)
  | (with_reducible refine g_cb ?_) | (with_reducible refine g_bm ?_) | (with_reducible refine g_lst ?_) | (with_reducible refine g_tup ?_) | (with_reducible refine iteT ?_) | (with_reducible refine iteF ?_) | (with_reducible refine g_nt ?_) | (with_reducible refine g_nf ?_)
  | (with_reducible refine g_par ?_) | (with_reducible refine g_par3 ?_) | (with_reducible refine g_two ?_) | (with_reducible refine g_three ?_) | (with_reducible refine g_ckw ?_) | (with_reducible refine g_yes ?_) | (with_reducible refine g_chain ?_) | (with_reducible refine g_gnil ?_) | (with_reducible refine g_gcons ?_) | (with_reducible refine g_fld ?_) | (with_reducible refine g_sfld ?_) | (with_reducible refine g_isN ?_) | (with_reducible refine g_nint ?_) | (with_reducible refine g_nintB ?_) | (with_reducible refine g_max ?_) | (with_reducible refine g_min ?_))))
/-! ### what is stripped -/
theorem strip_atom {d e : PyData} (h : strip e = d) (a : atom d) : e = d := by
  rcases a with rfl | ⟨b, rfl⟩ | ⟨i, rfl⟩ | ⟨s, rfl⟩ <;> (cases e <;> simp [strip] at h ⊢ <;> exact h)
theorem strip_list {e : PyData} {ds : List PyData} (h : strip e = .list ds) : ∃ es, (e = .list es ∨ e = .tuple es) ∧ stripAll es = ds := by
  cases e with
  | list es => exact ⟨es, .inl rfl, by simpa [strip] using h⟩
  | tuple es => exact ⟨es, .inr rfl, by simpa [strip] using h⟩
  | _ => simp [strip] at h
theorem stripAll_cons {es : List PyData} {d : PyData} {ds : List PyData} (h : stripAll es = d :: ds) : ∃ e es', es = e :: es' ∧ strip e = d ∧ stripAll es' = ds := by
  cases es with
  | nil => simp [stripAll] at h
  | cons e es' =>
    simp only [stripAll, List.cons.injEq] at h
    exact ⟨e, es', rfl, h.1, h.2⟩
theorem stripAll_nil {es : List PyData} (h : stripAll es = []) : es = [] := by
  cases es with
  | nil => rfl
  | cons e es' => simp [stripAll] at h
theorem dp_seq {K : PySem.W.Frag} {H : Hp} {v : V} {e : PyData} {es : List PyData} (h : Dp K H v e) (h1 : e = .list es ∨ e = .tuple es) : ∃ a xs, v = .ref a ∧ Seq K H a xs ∧ DpAll K H xs es := by
  rcases h1 with rfl | rfl
  · cases h with
    | lst h1 h2 => exact ⟨_, _, rfl, .inl h1, h2⟩
  · cases h with
    | tup h1 h2 => exact ⟨_, _, rfl, .inr h1, h2⟩
theorem hd_atom (h : Option Int) : atom (hd h) := by
  cases h with
  | none => exact .inl rfl
  | some k => exact .inr (.inr (.inl ⟨k, rfl⟩))
theorem strip_hd (h : Option Int) : strip (hd h) = hd h := by
  cases h <;> rfl
theorem dp_hd {K : PySem.W.Frag} {H : Hp} {v : V} {h : Option Int} (q : Dp K H v (hd h)) : v = hv h := by
  cases h with
  | none => cases q; rfl
  | some k => cases q; rfl
theorem ruleQ_strip {K : PySem.W.Frag} {H : Hp} {v : V} {e : PyData} {r : Rl} (h : Dp K H v e) (hs : strip e = strip (rd r)) : RuleQ K H v r := by
  have h0 : strip (rd r) = .list [.int r.lo, hd r.hi, .str r.lf, .int r.re, .int r.mo] := by simp [rd, strip, stripAll, strip_hd]
  obtain ⟨es, h1, h2⟩ := strip_list (hs.trans h0)
  obtain ⟨a, xs, rfl, hx, hall⟩ := dp_seq h h1
  obtain ⟨e1, es, rfl, s1, h2⟩ := stripAll_cons h2
  obtain ⟨e2, es, rfl, s2, h2⟩ := stripAll_cons h2
  obtain ⟨e3, es, rfl, s3, h2⟩ := stripAll_cons h2
  obtain ⟨e4, es, rfl, s4, h2⟩ := stripAll_cons h2
  obtain ⟨e5, es, rfl, s5, h2⟩ := stripAll_cons h2
  obtain rfl := stripAll_nil h2
  obtain rfl := strip_atom s1 (.inr (.inr (.inl ⟨_, rfl⟩)))
  obtain rfl := strip_atom s2 (hd_atom _)
  obtain rfl := strip_atom s3 (.inr (.inr (.inr ⟨_, rfl⟩)))
  obtain rfl := strip_atom s4 (.inr (.inr (.inl ⟨_, rfl⟩)))
  obtain rfl := strip_atom s5 (.inr (.inr (.inl ⟨_, rfl⟩)))
  cases hall with
  | cons q1 hall =>
    cases hall with
    | cons q2 hall =>
      cases hall with
      | cons q3 hall =>
        cases hall with
        | cons q4 hall =>
          cases hall with
          | cons q5 hall =>
            cases hall
            cases q1
            obtain rfl := dp_hd q2
            cases q3
            cases q4
            cases q5
            exact ⟨a, rfl, hx⟩
theorem rulesQ_strip {K : PySem.W.Frag} {H : Hp} : ∀ {xs : List V} {es : List PyData} {R : List Rl}, DpAll K H xs es → stripAll es = stripAll (R.map rd) → Paired (RuleQ K H) xs R
  | _, _, [], h, hs => by
    obtain rfl := stripAll_nil (by simpa [stripAll] using hs)
    cases h
    exact .nil
  | _, _, r :: R, h, hs => by
    rw [List.map_cons, stripAll] at hs
    obtain ⟨e, es', rfl, s1, s2⟩ := stripAll_cons hs
    cases h with
    | cons q1 q2 => exact .cons (ruleQ_strip q1 s1) (rulesQ_strip q2 s2)
theorem wd_rule (r : Rl) : Wd 1 (rd r) := .inr ⟨_, .inr rfl, of_decide_eq_true rfl, fun e he => by
  simp only [List.mem_cons, List.not_mem_nil, or_false] at he
  rcases he with rfl | rfl | rfl | rfl | rfl
  · exact .inr (.inr (.inl ⟨_, rfl⟩))
  · exact hd_atom _
  · exact .inr (.inr (.inr ⟨_, rfl⟩))
  · exact .inr (.inr (.inl ⟨_, rfl⟩))
  · exact .inr (.inr (.inl ⟨_, rfl⟩))⟩
theorem wd_rules {R : List Rl} (h : R.length ≤ 6) : Wd 2 (.list (R.map rd)) := .inr ⟨_, .inl rfl, by rw [List.length_map]; omega, fun e he => by
  obtain ⟨r, _, rfl⟩ := List.mem_map.mp he
  exact wd_rule r⟩
theorem perm_lift {α β : Type} {f : α → β} : ∀ {ys : List β} {zs : List α}, ys.Perm (zs.map f) → ∃ zs' : List α, zs'.Perm zs ∧ zs'.map f = ys
  | [], zs, hp => by
    have := hp.symm.eq_nil
    exact ⟨[], by rw [List.map_eq_nil_iff.mp this], rfl⟩
  | y :: ys, zs, hp => by
    have hm : y ∈ zs.map f := hp.mem_iff.mp List.mem_cons_self
    obtain ⟨z, hz, rfl⟩ := List.mem_map.mp hm
    obtain ⟨l1, l2, rfl⟩ := List.append_of_mem hz
    have hp2 : ys.Perm ((l1 ++ l2).map f) := by
      refine List.Perm.cons_inv (a := f z) (hp.trans ?_)
      rw [List.map_append, List.map_cons, List.map_append]
      exact List.perm_middle
    obtain ⟨zs', p1, p2⟩ := perm_lift hp2
    exact ⟨z :: zs', (p1.cons z).trans List.perm_middle.symm, by rw [List.map_cons, p2]⟩
theorem sqT_hid {K : PySem.W.Frag} {H : Hp} {a c t : Addr} {n : Nat} {xs : List V} (q : SqT K H t xs) (s : StA H a c n) : SqT K (hid a c H) t xs := by
  obtain ⟨_, r', k, mm, cs, g1, g2, _⟩ := s
  have ne : ∀ o, H t = some o → tupO o = true → hid a c H t = some o := fun o z y => hid_of z (fun w => by
    rw [w, g1] at z
    cases z
    cases y) (fun w => by
    rw [w, g2] at z
    cases z
    cases y)
  rcases q with (h2 | ⟨o, h2⟩) | h2
  · exact .inl (.inl (ne _ h2 rfl))
  · exact .inl (.inr ⟨o, ne _ h2 rfl⟩)
  · exact .inr h2
theorem RuleT.hid {K : PySem.W.Frag} {H : Hp} {a c : Addr} {n : Nat} {v : V} {r : Rl} (q : RuleT K H v r) (s : StA H a c n) : RuleT K (hid a c H) v r := by
  obtain ⟨t, h1, h2⟩ := q
  exact ⟨t, h1, sqT_hid h2 s⟩
theorem g_make {C : Addr} {sp : Sp} {dvs : List V} {E : XK} {t : TA} {σ : L2.St} {H : Hp} {Q : VK} (h : t σ H fun vs H1 => ∀ x dx, H1 x = none → H1 dx = none → dx ≠ x → sp (.ref x :: (vs ++ dvs)) (upd (upd H1 dx (.own x)) x (.ins C dx [])) (fun v H2 => v = .non ∧ Q (.ref x) H2) E) : tMake C sp dvs E t σ H Q := h
theorem made_ex {H : Hp} {x dx C : Addr} (h1 : H x = none) (h2 : H dx = none) : Ex H (del (upd (upd H dx (.own x)) x (.ins C dx [])) x) := fun b o h => by
  have hx : b ≠ x := ne_of_none h h1
  rw [del_ne hx, upd_ne hx, upd_ne (ne_of_none h h2)]
  exact h
theorem BookAt.new {K : PySem.W.Frag} {S : List Addr} {H H' : Hp} {b : Addr} {R : List Rl} (h : BookAt K H' (.ref b) R) (n : H b = none) (e : ExB S H H') (hs' : LsS S H') : BookAt K (newH H H') (.ref b) R := by
  obtain ⟨b', dx, t, fs, ys, hb, h2, h3, h4, h5⟩ := h
  cases hb
  exact ⟨b, dx, t, fs, ys, rfl, by rw [new_none n]; exact h2, h3, new_t e hs' h4, prd_mono (fun _ _ z => z.new e hs') h5⟩
def spMade (K : PySem.W.Frag) : Sp := fun vs H Q _ => ∃ (G : Hp) (a c l : Addr) (n : Nat) (xs : List V) (R : List Rl), vs = [.ref a, .ref l] ∧ Fr G H a c n ∧ n + 100 < 1000000000 ∧ SqL K G l xs ∧ Paired (RuleT K G) xs R ∧ Goods R ∧
  ∀ H' v S, ExB [a, c] H H' → StA H' a c (n + 30) → BookAt K (newH H H') v S → S.Perm R → Srt S → Q v H'
section
variable {P : Program} {w : World} {K : PySem.W.Frag} {mg : Str → Option Value} {base : Heap}
theorem sc_w_a_made : FnScope ["_law_stream", "_law_raw"] ["_law_stream", "_law_raw"] (defScope st_w_a_made) := ⟨rfl, rfl, rfl, by decide +kernel, rfl, by decide +kernel, by decide +kernel⟩
theorem ok_w_a_made (T : Txt K mg) : Kept P w K mg base CX0 7 "_law_a_made" ["_law_stream", "_law_raw"] (spMade K) := by
  have G_w_mixed := ok_w_mixed (P := P) (w := w) (base := base) T
  have G_w_loose := ok_w_loose (P := P) (w := w) (base := base) T 2
  obtain ⟨fdB, FB, BB⟩ := T.bookF
  refine kept0 T.d_w_a_made sc_w_a_made (fun vs H Q E h => ?_) (fun cdv A outer s H0 vs Q E hr h => ?_)
  · obtain ⟨G, a, c, l, n, xs, R, rfl, _⟩ := h
    rfl
  · obtain ⟨G, a, c, l, n, xs, R, rfl, f, hn, hl, hR, g, q⟩ := h
    refine ⟨_, (pss_one (ps_ret (pe_make T.bookM (ok_Book_init T FB) (hr.mono (by decide)) (by rfl) T.bookG BB .nil pass0 (pa_cons (pe_c G_w_loose (hr.mono (by decide)) pass0 (pa_cons (pv 0) (pa_cons (pe_c G_w_mixed (hr.mono (by decide)) pass0 (pa_cons (pv 0) (pa_cons (pv 1) pa_nil))) pa_nil))) pa_nil)))), ?_⟩
    walk_at "k"
    with_reducible refine g_make ?_
    walk_at "k"
    have hx6 : xs.length ≤ 6 := by
      rw [prd_len hR]
      exact g.len
    refine ⟨G, a, c, l, n, xs, rfl, f, by omega, hl, by omega, fun H1 p ys e1 s1 np hp hperm => ?_⟩
    obtain ⟨zs, z1, z2, z3⟩ := prd_zip hR
    obtain ⟨zs', hz', hzy⟩ := perm_lift (ys := ys) (f := fun z : V × Rl => z.1) (by rw [z1]; exact hperm)
    obtain ⟨S0, hS0⟩ : ∃ S0, S0 = zs'.map (·.2) := ⟨_, rfl⟩
    have hSR : S0.Perm R := by
      rw [hS0, ← z2]
      exact hz'.map _
    have eG1 := exB_keep e1 f.ex f.ga f.gc
    have hyS : Paired (RuleT K H1) ys S0 := by
      rw [← hzy, hS0]
      exact prd_of fun z hz => (z3 z (hz'.mem_iff.mp hz)).ex eG1
    have g0 := g.perm hSR
    have npa := f.st.na np
    have hd : Dp K (hid a c H1) (.ref p) (.list (S0.map rd)) := .lst (sq_of (hid_of hp npa.1 npa.2)) (dp_rules (prd_mono (fun _ _ z => z.hid s1) hyS))
    walk_at "k"
    refine ⟨hid a c H1, a, c, n + xs.length, .ref p, rfl, fr_hid s1, by show n + xs.length + 11 < _; omega, .inl ⟨_, hd, wd_rules g0.len, fun H2 v' d' e2 s2 hv' hs' => ?_⟩⟩
    obtain ⟨es, h1, h2⟩ := strip_list (hs'.trans (show strip (.list (S0.map rd)) = .list (stripAll (S0.map rd)) by simp [strip]))
    have hN : Ex (newH H1 H2) H2 := new_ex e2 s1.ls
    obtain ⟨a', xs', rfl, hx', hall⟩ := dp_seq (dp_ex hN _ _ hv') h1
    have hQ := rulesQ_strip hall h2
    walk_at "k"
    intro x dx nx ndx hne
    have hme := made_ex (C := He.ga K "Book") nx ndx
    refine ⟨x, dx, a', xs', S0, rfl, upd_same, hx'.ex hme, prd_mono (fun _ _ z => z.ex hme) hQ, g0, fun H3 S e3 hB hSS hsrt => ⟨rfl, ?_⟩⟩
    have e23 : Ex H2 H3 := hme.trans e3
    have s3 := s2.ex e23
    have e03 : ExB [a, c] H0 H3 := (e1.trans e2).trans (exB_of e23)
    have hc11 : costL 2 = 11 := rfl
    exact q H3 (.ref x) S e03 (s3.mono (by omega)) (hB.new (exB_none (e1.trans e2) s2 nx) e03 s3.ls) (hSS.trans hSR) hsrt
end
end Tk
namespace Tk
open PySem PySem.Spec PyProof.Rows L2
open Evl (Ex ex_l ex_t ex_rd sq_of st_of fresh_back)
local macro_rules | `(tactic| walk_at "g") => `(tactic| (repeat (first
  | (with_reducible refine g_seq ?_) | (with_reducible refine g_asg ?_) | (with_reducible refine g_name ?_) | (with_reducible refine g_sub ?_)
  | ((with_reducible refine' g_var ?e ?_); (case e => exact rfl)) | (with_reducible refine g_c ?_) | (with_reducible refine g_op ?_) | (with_reducible refine g_un ?_) | (with_reducible refine g_U ?_)
  | (with_reducible refine g_I0 ?_) | (with_reducible refine g_eqI ?_) | (with_reducible refine g_neI ?_) | (with_reducible refine g_eqS ?_) | (with_reducible refine g_neS ?_) | (with_reducible refine g_eqB ?_) | (with_reducible refine g_neB ?_)
  | (with_reducible refine g_test ?_) | (with_reducible refine g_tB ?_) | (with_reducible refine g_bl ?_) | (with_reducible refine g_and ?_) | (with_reducible refine g_or ?_) | (with_reducible refine g_not ?_)
  | (with_reducible refine g_andV ?_) | (with_reducible refine g_orV ?_) | (with_reducible refine g_notV ?_) | (with_reducible refine g_ifE ?_) | (with_reducible refine g_ifS ?_)
  | (with_reducible refine g_next ?_) | (with_reducible refine g_ret ?_) | (with_reducible refine g_drop ?_) | (with_reducible refine g_nil ?_) | (with_reducible refine g_cons ?_) | (with_reducible refine g_call ?_)
  | (with_reducible refine g_cb ?_) | (with_reducible refine g_bm ?_) | (with_reducible refine g_lst ?_) | (with_reducible refine g_tup ?_) | (with_reducible refine iteT ?_) | (with_reducible refine iteF ?_) | (with_reducible refine g_nt ?_) | (with_reducible refine g_nf ?_)
  | (with_reducible refine g_par ?_) | (with_reducible refine g_par3 ?_) | (with_reducible refine g_two ?_) | (with_reducible refine g_three ?_) | (with_reducible refine g_ckw ?_) | (with_reducible refine g_yes ?_) | (with_reducible refine g_chain ?_) | (with_reducible refine g_gnil ?_) | (with_reducible refine g_gcons ?_) | (with_reducible refine g_fld ?_) | (with_reducible refine g_sfld ?_) | (with_reducible refine g_isN ?_) | (with_reducible refine g_nint ?_) | (with_reducible refine g_nintB ?_) | (with_reducible refine g_max ?_) | (with_reducible refine g_min ?_))))
local macro_rules | `(tactic| walk_at "k") => `(tactic| (repeat (first
  | (with_reducible refine g_seq ?_) | (with_reducible refine g_asg ?_) | (with_reducible refine g_name ?_) | (with_reducible refine g_sub ?_)
  | ((with_reducible refine' g_var ?e ?_); (case e => exact rfl)) | (with_reducible refine g_c ?_) | (with_reducible refine g_op ?_) | (with_reducible refine g_un ?_) | (with_reducible refine g_U ?_)
  | (with_reducible refine g_I0 ?_) | (with_reducible refine g_eqI ?_) | (with_reducible refine g_neI ?_) | (with_reducible refine g_eqS ?_) | (with_reducible refine g_neS ?_) | (with_reducible refine g_eqB ?_) | (with_reducible refine g_neB ?_)
  | (with_reducible refine g_test ?_) | (with_reducible refine g_tB ?_) | (with_reducible refine g_bl ?_) | (with_reducible refine g_and ?_) | (with_reducible refine g_or ?_) | (with_reducible refine g_not ?_)
  | (with_reducible refine g_andV ?_) | (with_reducible refine g_orV ?_) | (with_reducible refine g_notV ?_) | (with_reducible refine g_ifE ?_)
  | (with_reducible refine g_next ?_) | (with_reducible refine g_ret ?_) | (with_reducible refine g_drop ?_) | (with_reducible refine g_nil ?_) | (with_reducible refine g_cons ?_) | (with_reducible refine g_call ?_)
  | (with_reducible refine g_cb ?_) | (with_reducible refine g_bm ?_) | (with_reducible refine g_lst ?_) | (with_reducible refine g_tup ?_) | (with_reducible refine iteT ?_) | (with_reducible refine iteF ?_) | (with_reducible refine g_nt ?_) | (with_reducible refine g_nf ?_)
  | (with_reducible refine g_par ?_) | (with_reducible refine g_par3 ?_) | (with_reducible refine g_two ?_) | (with_reducible refine g_three ?_) | (with_reducible refine g_ckw ?_) | (with_reducible refine g_yes ?_) | (with_reducible refine g_chain ?_) | (with_reducible refine g_gnil ?_) | (with_reducible refine g_gcons ?_) | (with_reducible refine g_fld ?_) | (with_reducible refine g_sfld ?_) | (with_reducible refine g_isN ?_) | (with_reducible refine g_nint ?_) | (with_reducible refine g_nintB ?_) | (with_reducible refine g_max ?_) | (with_reducible refine g_min ?_))))
theorem g_setD {d : Addr} {kvs : List (Key × V)} {n : Int} {v : V} {H : Hp} {Q : Hp → Prop} (hd : H d = some (.dK kvs)) (hl : kvs.length < 100000) (h : ∀ H', But d H H' → H' d = some (.dK (putK kvs (.inl n) v)) → Q H') : rSetD (.ref d) (.int n) v H Q :=
  ⟨d, _, rfl, DPut.k (k := .inl n) hd (szl hl), h _ (fun _ hb => upd_ne hb) upd_same⟩
theorem units1 {k : Nat} {A : Around} (hr : Room k A) : A.units + 1 < cLine := by
  have := hr.un
  omega
structure Told2 (R : List Rl) (h : Int) (gone : Bool) (os ts : List Int) : Prop where
  gone : gone = true ↔ Can R h "none" h
  one : ∀ o, o ∈ os ↔ 1 ≤ o ∧ Can R h "one" (h - o)
  two : ∀ b, b ∈ ts ↔ 2 ≤ b ∧ Can R h "two" (h - b)
  l1 : os.length ≤ 41
  l2 : ts.length ≤ 41
def spTaken (K : PySem.W.Frag) : Sp := fun vs H Q _ => ∃ (l : Addr) (xs : List V) (R : List Rl) (h : Int), vs = [.ref l, .int h] ∧ SqL K H l xs ∧ Paired (RuleT K H) xs R ∧ Goods R ∧ 1 ≤ h ∧ h ≤ 40 ∧
  ∀ H' t d1 d2 gone os ts, Ex H H' → SqT K H' t [.bl gone, .ref d1, .ref d2] → SqL K H' d1 (os.map V.int) → SqL K H' d2 (ts.map V.int) → Told2 R h gone os ts → Q (.ref t) H'
theorem keys_len {kvs : List (Key × V)} {ks : List Int} (h : Keys kvs ks) : kvs.length = ks.length := by
  have := congrArg List.length h.1
  rw [List.length_map, List.length_map] at this
  exact this
theorem most_min (r : Rl) (h : Int) : (match r.hi with | none => h | some k => if k < h then k else h) = most r h := by
  unfold most
  cases r.hi with
  | none => rfl
  | some k =>
    show (if k < h then k else h) = if h < k then h else k
    split <;> split <;> omega
section
variable {P : Program} {w : World} {K : PySem.W.Frag} {mg : Str → Option Value} {base : Heap}
theorem sc_w_a_taken : FnScope ["_law_raw", "_law_heap", "_law_goes", "_law_ones", "_law_twos", "_law_low", "_law_high", "_law_left", "_law_rest", "_law_modulus", "_law_number"] ["_law_raw", "_law_heap"] (defScope st_w_a_taken) := ⟨rfl, rfl, rfl, by decide +kernel, rfl, by decide +kernel, by decide +kernel⟩
theorem ok_w_a_taken (T : Txt K mg) : Kept P w K mg base CX0 1 "_law_a_taken" ["_law_raw", "_law_heap"] (spTaken K) := by
  refine kept0 T.d_w_a_taken sc_w_a_taken (fun vs H Q E h => ?_) (fun cdv A outer s H0 vs Q E hr h => ?_)
  · obtain ⟨l, xs, R, h, rfl, _⟩ := h
    rfl
  · obtain ⟨l, xs, R, h, rfl, hl, hR, g, h1, h40, q⟩ := h
    refine ⟨_, (pss_cons (ps_par3 (i := 2) (j := 3) (l := 4) rfl sc_w_a_taken.nd rfl rfl rfl (by decide) (by decide) (by decide) rfl rfl rfl (pa_cons pe_bl (pa_cons pe_dnewK (pa_cons pe_dnewK pa_nil))) rfl)
      (pss_cons (ps_for PassesOwn.never rfl (pi_q (pv 0)) (pg_tup rfl (pgs_cons (pg_name (i := 5) sc_w_a_taken.nd rfl (Or.inl rfl)) (pgs_cons (pg_name (i := 6) sc_w_a_taken.nd rfl (Or.inl rfl)) (pgs_cons (pg_name (i := 7) sc_w_a_taken.nd rfl (Or.inl rfl)) (pgs_cons (pg_name (i := 8) sc_w_a_taken.nd rfl (Or.inl rfl)) (pgs_cons (pg_name (i := 9) sc_w_a_taken.nd rfl (Or.inl rfl)) pgs_nil)))))) (pss_one (ps_if (pt_cmpR op_eq (pe_op op_mod (pe_callTy cInt (by rfl) T.f_int (by decide +kernel) (pa_cons (pv 1) pa_nil)) (pv 9)) (pv 8) (nomark _)) (pss_one (ps_for PassesOwn.never rfl (pi_range2 (by rfl) T.f_range (pa_cons (pv 5) (pa_cons (pe_op op_add (pe_callB (cMin rfl) (by rfl) T.f_min (by decide +kernel) (pa_cons (pv 1) (pa_cons (pe_ifExp (pt_cmpR op_isN (pv 6) pe_non (nomark _)) (pv 1) (pv 6)) pa_nil))) pe_int) pa_nil))) (pg_name (i := 10) sc_w_a_taken.nd rfl (Or.inl rfl)) (pss_cons (ps_set (i := 2) sc_w_a_taken.nd rfl (Or.inl rfl) (pe_or (pv 2) (pe_one (pe_and (pe_cmpR op_eq (pv 7) pe_str (nomark _)) (pe_one (pe_cmpR op_eq (pv 10) (pv 1) (nomark _)))))))
      (pss_cons (ps_if (PW.pt (pw_and (pt_cmpR op_eq (pv 7) pe_str (nomark _)) (pw_and1 (pt_cmpR op_lt (pv 10) (pv 1) (nomark _))))) (pss_one (ps_asg pe_bl (pg_sub (pv 3) (pe_op op_sub (pv 1) (pv 10)) (set_dict (units1 hr))))) pss_nil)
      (pss_one (ps_if (PW.pt (pw_and (pt_cmpR op_eq (pv 7) pe_str (nomark _)) (pw_and1 (pt_cmpR op_lt (pv 10) (pe_op op_sub (pv 1) pe_int) (nomark _))))) (pss_one (ps_asg pe_bl (pg_sub (pv 4) (pe_op op_sub (pv 1) (pv 10)) (set_dict (units1 hr))))) pss_nil)))))) pss_nil)))
      (pss_one (ps_ret (pe_tup (pa_cons (pv 2) (pa_cons (pe_callB (cr_sortD rfl) (by rfl) T.f_sorted (by decide +kernel) (pa_cons (pv 3) pa_nil)) (pa_cons (pe_callB (cr_sortD rfl) (by rfl) T.f_sorted (by decide +kernel) (pa_cons (pv 4) pa_nil)) pa_nil)))))))), ?_⟩
    walk_at "k"
    refine g_dnew fun d1 H1 n1 e1 hd1 b1 => ?_
    walk_at "k"
    refine g_dnew fun d2 H2 n2 e2 hd2 b2 => ?_
    walk_at "k"
    have n20 : H0 d2 = none := none_ex e1 n2
    have e02 := e1.trans e2
    have h21 : d2 ≠ d1 := fun z => by rw [z, hd1] at n2; cases n2
    refine g_forI ?_
    walk_at "k"
    refine over_for (G := H0) (xs := xs) (.inl hl) e02 (fun i σ H => ∃ (o5 o6 o7 o8 o9 o10 : Option V) (gone : Bool) (kv1 kv2 : List (Key × V)) (k1 k2 : List Int),
      σ = [some (.ref l), some (.int h), some (.bl gone), some (.ref d1), some (.ref d2), o5, o6, o7, o8, o9, o10] ∧ Ex H0 H ∧ H d1 = some (.dK kv1) ∧ H d2 = some (.dK kv2) ∧ Keys kv1 k1 ∧ Keys kv2 k2 ∧
      (gone = true ↔ Can (R.take i) h "none" h) ∧ (∀ o, o ∈ k1 ↔ 1 ≤ o ∧ Can (R.take i) h "one" (h - o)) ∧ (∀ z, z ∈ k2 ↔ 2 ≤ z ∧ Can (R.take i) h "two" (h - z))) ?_ ?_ ?_ ?_
    · refine ⟨none, none, none, none, none, none, false, [], [], [], [], rfl, e02, e2 _ _ hd1, hd2, ⟨rfl, List.nodup_nil⟩, ⟨rfl, List.nodup_nil⟩, ?_, fun o => ?_, fun z => ?_⟩
      · rw [List.take_zero]
        exact ⟨fun z => (by cases z), fun z => absurd z can_nil⟩
      · rw [List.take_zero]
        exact ⟨fun hz => absurd hz (by simp), fun z => absurd z.2 can_nil⟩
      · rw [List.take_zero]
        exact ⟨fun hz => absurd hz (by simp), fun z => absurd z.2 can_nil⟩
    · rintro i σ H ⟨_, _, _, _, _, _, _, _, _, _, _, _, h2, _⟩
      exact h2
    · rintro i x σ H hx ⟨o5, o6, o7, o8, o9, o10, gone, kv1, kv2, k1, k2, rfl, eH, hk1, hk2, hK1, hK2, q1, q2, q3⟩
      obtain ⟨r, hr', b', rfl, hrt⟩ := prd_get hR hx
      have gr := g.good r (List.mem_of_getElem? hr')
      have hmo := gr.mo1
      have hlo0 := gr.lo0
      have hlo12 := gr.lo12
      have hml' := most_le r h
      walk_at "k"
      refine g_gtup (ex_t eH hrt) rfl ?_
      walk_at "k"
      with_reducible refine g_ifS ?_
      walk_at "k"
      refine g_I (by omega) ?_
      walk_at "k"
      by_cases c1 : h % r.mo = r.re
      · rw [decide_eq_true c1]
        walk_at "k"
        obtain ⟨hnum, hnd⟩ : ∃ num : Nat → Int, ∀ i, num i = r.lo + (i : Int) := ⟨fun i => r.lo + i, fun _ => rfl⟩
        refine g_forR2 (lo := r.lo) (hi := most r h + 1) (fun R hR => ?_) ?_ (fun j σ H' => ∃ (o10 : Option V) (gone' : Bool) (kv1' kv2' : List (Key × V)) (k1' k2' : List Int),
          σ = [some (.ref l), some (.int h), some (.bl gone'), some (.ref d1), some (.ref d2), some (.int r.lo), some (hv r.hi), some (.str r.lf), some (.int r.re), some (.int r.mo), o10] ∧ Ex H0 H' ∧ H' d1 = some (.dK kv1') ∧ H' d2 = some (.dK kv2') ∧ Keys kv1' k1' ∧ Keys kv2' k2' ∧
          (gone' = true ↔ gone = true ∨ (r.lf = "none" ∧ r.lo ≤ h ∧ h < r.lo + (j : Int))) ∧ (∀ o, o ∈ k1' ↔ o ∈ k1 ∨ (r.lf = "one" ∧ 1 ≤ o ∧ r.lo ≤ h - o ∧ h - o < r.lo + (j : Int))) ∧ (∀ z, z ∈ k2' ↔ z ∈ k2 ∨ (r.lf = "two" ∧ 2 ≤ z ∧ r.lo ≤ h - z ∧ h - z < r.lo + (j : Int)))) ?_ ?_ ?_
        · walk_at "k"
          have hmm := most_min r h
          cases hh : r.hi with
          | none =>
            rw [show decide (hv none = V.non) = true from rfl]
            rw [hh] at hmm
            walk_at "k"
            rw [show (if h < h then h else h) = most r h by rw [← hmm]; split <;> rfl]
            exact hR
          | some k =>
            rw [show decide (hv (some k) = V.non) = false from rfl]
            rw [hh] at hmm
            walk_at "k"
            rw [show (if k < h then k else h) = most r h from hmm]
            exact hR
        · have hlow : -1 ≤ most r h := by
            unfold most
            cases hh : r.hi with
            | none =>
              show -1 ≤ h
              omega
            | some k =>
              have := (gr.hiS k hh).1
              show -1 ≤ if h < k then h else k
              split <;> omega
          omega
        · refine ⟨o10, gone, kv1, kv2, k1, k2, rfl, eH, hk1, hk2, hK1, hK2, ⟨.inl, fun z => z.elim id fun y => by omega⟩, fun o => ⟨.inl, fun z => z.elim id fun y => by omega⟩, fun o => ⟨.inl, fun z => z.elim id fun y => by omega⟩⟩
        · rintro j σ H' hj ⟨o10', gone', kv1', kv2', k1', k2', rfl, eH', hk1', hk2', hK1', hK2', p1, p2, p3⟩
          with_reducible refine g_name ?_
          with_reducible refine g_seq ?_
          with_reducible refine g_asg ?_
          refine g_ecut (.bl (gone' || (decide (r.lf = "none") && decide (r.lo + (j : Int) = h)))) (fun Q' q' => ?_) ?_
          · walk_at "k"
            cases gone' with
            | true =>
              walk_at "k"
              exact q'
            | false =>
              walk_at "k"
              by_cases z1 : r.lf = "none"
              · rw [decide_eq_true z1] at q' ⊢
                walk_at "k"
                exact q'
              · rw [decide_eq_false z1] at q' ⊢
                walk_at "k"
                exact q'
          have n30 : r.lo + (j : Int) + 1 = r.lo + ((j + 1 : Nat) : Int) := by omega
          have pg : ((gone' || (decide (r.lf = "none") && decide (r.lo + (j : Int) = h))) = true) ↔ gone = true ∨ (r.lf = "none" ∧ r.lo ≤ h ∧ h < r.lo + ((j + 1 : Nat) : Int)) := by
            rw [Bool.or_eq_true, Bool.and_eq_true, decide_eq_true_eq, decide_eq_true_eq, p1]
            constructor
            · rintro ((z | ⟨z1, z2, z3⟩) | ⟨z1, z2⟩)
              · exact .inl z
              · exact .inr ⟨z1, z2, by omega⟩
              · exact .inr ⟨z1, by omega, by omega⟩
            · rintro (z | ⟨z1, z2, z3⟩)
              · exact .inl (.inl z)
              · by_cases z4 : r.lo + (j : Int) = h
                · exact .inr ⟨z1, z4⟩
                · exact .inl (.inr ⟨z1, z2, by omega⟩)
          walk_at "k"
          with_reducible refine g_ifS ?_
          walk_at "k"
          have hkl1 : kv1'.length ≤ 41 := by
            rw [keys_len hK1']
            refine nodup_iv (lo := 0) hK1'.2 fun k hk => ?_
            rcases (p2 k).mp hk with z | z
            · have z2 := (q2 k).mp z
              obtain ⟨z3, r2, hr2, _, _, z6, _⟩ := z2
              have := (g.good r2 (List.mem_of_mem_take hr2)).lo0
              omega
            · omega
          have hkl2 : kv2'.length ≤ 41 := by
            rw [keys_len hK2']
            refine nodup_iv (lo := 0) hK2'.2 fun k hk => ?_
            rcases (p3 k).mp hk with z | z
            · have z2 := (q3 k).mp z
              obtain ⟨z3, r2, hr2, _, _, z6, _⟩ := z2
              have := (g.good r2 (List.mem_of_mem_take hr2)).lo0
              omega
            · omega
          rcases gr.lf3 with hlf | hlf | hlf
          · rw [decide_eq_false (by rw [hlf]; exact Ne.symm s_no1)]
            walk_at "k"
            with_reducible refine g_ifS ?_
            walk_at "k"
            rw [decide_eq_false (by rw [hlf]; exact Ne.symm s_no2)]
            walk_at "k"
            refine ⟨_, _, kv1', kv2', k1', k2', rfl, eH', hk1', hk2', hK1', hK2', pg, fun o => ?_, fun o => ?_⟩
            · rw [p2]
              exact ⟨fun z => z.imp id fun y => absurd (hlf.symm.trans y.1) (Ne.symm s_no1), fun z => z.imp id fun y => absurd (hlf.symm.trans y.1) (Ne.symm s_no1)⟩
            · rw [p3]
              exact ⟨fun z => z.imp id fun y => absurd (hlf.symm.trans y.1) (Ne.symm s_no2), fun z => z.imp id fun y => absurd (hlf.symm.trans y.1) (Ne.symm s_no2)⟩
          · rw [decide_eq_true hlf]
            walk_at "k"
            have p3' : ∀ z, z ∈ k2' ↔ z ∈ k2 ∨ (r.lf = "two" ∧ 2 ≤ z ∧ r.lo ≤ h - z ∧ h - z < r.lo + ((j + 1 : Nat) : Int)) := fun o => by
              rw [p3]
              exact ⟨fun z => z.imp id fun y => absurd (hlf.symm.trans y.1) (Ne.symm s_no3), fun z => z.imp id fun y => absurd (hlf.symm.trans y.1) (Ne.symm s_no3)⟩
            by_cases c3 : r.lo + (j : Int) < h
            · rw [decide_eq_true c3]
              walk_at "k"
              refine g_setD hk1' (by omega) fun H3 b3 h3 => ?_
              walk_at "k"
              with_reducible refine g_ifS ?_
              walk_at "k"
              rw [decide_eq_false (by rw [hlf]; exact Ne.symm s_no3)]
              walk_at "k"
              obtain ⟨k3, hK3, hm3⟩ := keys_put hK1' (h - (r.lo + (j : Int))) (.bl true)
              refine ⟨_, _, _, kv2', k3, k2', rfl, ex_but eH' n1 b3, h3, by rw [b3 d2 h21]; exact hk2', hK3, hK2', pg, fun o => ?_, p3'⟩
              rw [hm3, p2]
              constructor
              · rintro ((z | ⟨z1, z2, z3, z4⟩) | z)
                · exact .inl z
                · exact .inr ⟨z1, z2, z3, by omega⟩
                · exact .inr ⟨hlf, by omega, by omega, by omega⟩
              · rintro (z | ⟨z1, z2, z3, z4⟩)
                · exact .inl (.inl z)
                · by_cases z5 : h - o < r.lo + (j : Int)
                  · exact .inl (.inr ⟨z1, z2, z3, z5⟩)
                  · exact .inr (by omega)
            · rw [decide_eq_false c3]
              walk_at "k"
              with_reducible refine g_ifS ?_
              walk_at "k"
              rw [decide_eq_false (by rw [hlf]; exact Ne.symm s_no3)]
              walk_at "k"
              refine ⟨_, _, kv1', kv2', k1', k2', rfl, eH', hk1', hk2', hK1', hK2', pg, fun o => ?_, p3'⟩
              rw [p2]
              constructor
              · rintro (z | ⟨z1, z2, z3, z4⟩)
                · exact .inl z
                · exact .inr ⟨z1, z2, z3, by omega⟩
              · rintro (z | ⟨z1, z2, z3, z4⟩)
                · exact .inl z
                · exact .inr ⟨z1, z2, z3, by omega⟩
          · rw [decide_eq_false (by rw [hlf]; exact s_no3)]
            walk_at "k"
            with_reducible refine g_ifS ?_
            walk_at "k"
            rw [decide_eq_true hlf]
            walk_at "k"
            have p2' : ∀ z, z ∈ k1' ↔ z ∈ k1 ∨ (r.lf = "one" ∧ 1 ≤ z ∧ r.lo ≤ h - z ∧ h - z < r.lo + ((j + 1 : Nat) : Int)) := fun o => by
              rw [p2]
              exact ⟨fun z => z.imp id fun y => absurd (hlf.symm.trans y.1) s_no3, fun z => z.imp id fun y => absurd (hlf.symm.trans y.1) s_no3⟩
            by_cases c3 : r.lo + (j : Int) < h - 1
            · rw [decide_eq_true c3]
              walk_at "k"
              refine g_setD hk2' (by omega) fun H3 b3 h3 => ?_
              walk_at "k"
              obtain ⟨k3, hK3, hm3⟩ := keys_put hK2' (h - (r.lo + (j : Int))) (.bl true)
              refine ⟨_, _, kv1', _, k1', k3, rfl, ex_but eH' n20 b3, by rw [b3 d1 (Ne.symm h21)]; exact hk1', h3, hK1', hK3, pg, p2', fun o => ?_⟩
              rw [hm3, p3]
              constructor
              · rintro ((z | ⟨z1, z2, z3, z4⟩) | z)
                · exact .inl z
                · exact .inr ⟨z1, z2, z3, by omega⟩
                · exact .inr ⟨hlf, by omega, by omega, by omega⟩
              · rintro (z | ⟨z1, z2, z3, z4⟩)
                · exact .inl (.inl z)
                · by_cases z5 : h - o < r.lo + (j : Int)
                  · exact .inl (.inr ⟨z1, z2, z3, z5⟩)
                  · exact .inr (by omega)
            · rw [decide_eq_false c3]
              walk_at "k"
              refine ⟨_, _, kv1', kv2', k1', k2', rfl, eH', hk1', hk2', hK1', hK2', pg, p2', fun o => ?_⟩
              rw [p3]
              constructor
              · rintro (z | ⟨z1, z2, z3, z4⟩)
                · exact .inl z
                · exact .inr ⟨z1, z2, z3, by omega⟩
              · rintro (z | ⟨z1, z2, z3, z4⟩)
                · exact .inl z
                · exact .inr ⟨z1, z2, z3, by omega⟩
        · rintro σ H' ⟨o10', gone', kv1', kv2', k1', k2', rfl, eH', hk1', hk2', hK1', hK2', p1, p2, p3⟩
          walk_at "k"
          refine ⟨_, _, _, _, _, _, gone', kv1', kv2', k1', k2', rfl, eH', hk1', hk2', hK1', hK2', ?_, fun o => ?_, fun z => ?_⟩
          · rw [p1, can_step hr', q1]
            constructor
            · rintro (z | ⟨z1, z2, z3⟩)
              · exact .inl z
              · exact .inr ⟨z1, c1, z2, by omega⟩
            · rintro (z | ⟨z1, z2, z3, z4⟩)
              · exact .inl z
              · exact .inr ⟨z1, z3, by omega⟩
          · rw [p2, can_step hr', q2]
            constructor
            · rintro (⟨z1, z2⟩ | ⟨z1, z2, z3, z4⟩)
              · exact ⟨z1, .inl z2⟩
              · exact ⟨z2, .inr ⟨z1, c1, z3, by omega⟩⟩
            · rintro ⟨z1, z2 | ⟨z2, z3, z4, z5⟩⟩
              · exact .inl ⟨z1, z2⟩
              · exact .inr ⟨z2, z1, z4, by omega⟩
          · rw [p3, can_step hr', q3]
            constructor
            · rintro (⟨z1, z2⟩ | ⟨z1, z2, z3, z4⟩)
              · exact ⟨z1, .inl z2⟩
              · exact ⟨z2, .inr ⟨z1, c1, z3, by omega⟩⟩
            · rintro ⟨z1, z2 | ⟨z2, z3, z4, z5⟩⟩
              · exact .inl ⟨z1, z2⟩
              · exact .inr ⟨z2, z1, z4, by omega⟩
      · rw [decide_eq_false c1]
        walk_at "k"
        have hno : ∀ w n, ¬ (r.lf = w ∧ h % r.mo = r.re ∧ r.lo ≤ n ∧ n ≤ most r h) := fun w n z => c1 z.2.1
        refine ⟨_, _, _, _, _, _, gone, kv1, kv2, k1, k2, rfl, eH, hk1, hk2, hK1, hK2, ?_, fun o => ?_, fun z => ?_⟩
        · rw [can_skip hr' (hno _ _)]
          exact q1
        · rw [can_skip hr' (hno _ _)]
          exact q2 o
        · rw [can_skip hr' (hno _ _)]
          exact q3 z
    · rintro σ H ⟨o5, o6, o7, o8, o9, o10, gone, kv1, kv2, k1, k2, rfl, eH, hk1, hk2, hK1, hK2, q1, q2, q3⟩
      rw [prd_len hR, List.take_length] at q1 q2 q3
      have hb1 : k1.length ≤ 41 := nodup_iv (lo := 0) hK1.2 fun k hk => by
        obtain ⟨z3, r2, hr2, _, _, z6, _⟩ := (q2 k).mp hk
        have := (g.good r2 hr2).lo0
        omega
      have hb2 : k2.length ≤ 41 := nodup_iv (lo := 0) hK2.2 fun k hk => by
        obtain ⟨z3, r2, hr2, _, _, z6, _⟩ := (q3 k).mp hk
        have := (g.good r2 hr2).lo0
        omega
      walk_at "k"
      refine g_sortD hk1 hK1 (by omega) fun p1 H3 os np1 e3 hp1 hos _ => ?_
      walk_at "k"
      refine g_sortD (e3 _ _ hk2) hK2 (by omega) fun p2 H4 ts np2 e4 hp2 hts _ => ?_
      walk_at "k"
      refine g_newT (sz (of_decide_eq_true rfl)) fun t H5 nt e5 ht b5 => ?_
      refine q H5 t p1 p2 gone os ts (eH.trans (e3.trans (e4.trans e5))) (st_of ht) (sq_of (e5 _ _ (e4 _ _ hp1))) (sq_of (e5 _ _ hp2)) ⟨q1, fun o => ?_, fun b => ?_, ?_, ?_⟩
      · rw [hos.mem_iff]
        exact q2 o
      · rw [hts.mem_iff]
        exact q3 b
      · rw [hos.length_eq]
        exact hb1
      · rw [hts.length_eq]
        exact hb2
end
end Tk
namespace Tk
open PySem PySem.Spec PyProof.Rows L2
open Evl (Ex ex_l ex_t ex_rd sq_of st_of fresh_back)
local macro_rules | `(tactic| walk_at "g") => `(tactic| (repeat (first
  | (with_reducible refine g_seq ?_) | (with_reducible refine g_asg ?_) | (with_reducible refine g_name ?_) | (with_reducible refine g_sub ?_)
  | ((with_reducible refine' g_var ?e ?_); (case e => exact rfl)) | (with_reducible refine g_c ?_) | (with_reducible refine g_op ?_) | (with_reducible refine g_un ?_) | (with_reducible refine g_U ?_)
  | (with_reducible refine g_I0 ?_) | (with_reducible refine g_eqI ?_) | (with_reducible refine g_neI ?_) | (with_reducible refine g_eqS ?_) | (with_reducible refine g_neS ?_) | (with_reducible refine g_eqB ?_) | (with_reducible refine g_neB ?_)
  | (with_reducible refine g_test ?_) | (with_reducible refine g_tB ?_) | (with_reducible refine g_bl ?_) | (with_reducible refine g_and ?_) | (with_reducible refine g_or ?_) | (with_reducible refine g_not ?_)
  | (with_reducible refine g_andV ?_) | (with_reducible refine g_orV ?_) | (with_reducible refine g_notV ?_) | (with_reducible refine g_ifE ?_) | (with_reducible refine g_ifS ?_)
  | (with_reducible refine g_next ?_) | (with_reducible refine g_ret ?_) | (with_reducible refine g_drop ?_) | (with_reducible refine g_nil ?_) | (with_reducible refine g_cons ?_) | (with_reducible refine g_call ?_)
  | (with_reducible refine g_cb ?_) | (with_reducible refine g_bm ?_) | (with_reducible refine g_lst ?_) | (with_reducible refine g_tup ?_) | (with_reducible refine iteT ?_) | (with_reducible refine iteF ?_) | (with_reducible refine g_nt ?_) | (with_reducible refine g_nf ?_)
  | (with_reducible refine g_par ?_) | (with_reducible refine g_par3 ?_) | (with_reducible refine g_two ?_) | (with_reducible refine g_three ?_) | (with_reducible refine g_ckw ?_) | (with_reducible refine g_yes ?_) | (with_reducible refine g_chain ?_) | (with_reducible refine g_gnil ?_) | (with_reducible refine g_gcons ?_) | (with_reducible refine g_fld ?_) | (with_reducible refine g_sfld ?_) | (with_reducible refine g_isN ?_) | (with_reducible refine g_nint ?_) | (with_reducible refine g_nintB ?_) | (with_reducible refine g_max ?_) | (with_reducible refine g_min ?_))))
local macro_rules | `(tactic| walk_at "k") => `(tactic| (repeat (first
  | (with_reducible refine g_seq ?_) | (with_reducible refine g_asg ?_) | (with_reducible refine g_name ?_) | (with_reducible refine g_sub ?_)
  | ((with_reducible refine' g_var ?e ?_); (case e => exact rfl)) | (with_reducible refine g_c ?_) | (with_reducible refine g_op ?_) | (with_reducible refine g_un ?_) | (with_reducible refine g_U ?_)
  | (with_reducible refine g_I0 ?_) | (with_reducible refine g_eqI ?_) | (with_reducible refine g_neI ?_) | (with_reducible refine g_eqS ?_) | (with_reducible refine g_neS ?_) | (with_reducible refine g_eqB ?_) | (with_reducible refine g_neB ?_)
  | (with_reducible refine g_test ?_) | (with_reducible refine g_tB ?_) | (with_reducible refine g_bl ?_) | (with_reducible refine g_and ?_) | (with_reducible refine g_or ?_) | (with_reducible refine g_not ?_)
  | (with_reducible refine g_andV ?_) | (with_reducible refine g_orV ?_) | (with_reducible refine g_notV ?_) | (with_reducible refine g_ifE ?_)
  | (with_reducible refine g_next ?_) | (with_reducible refine g_ret ?_) | (with_reducible refine g_drop ?_) | (with_reducible refine g_nil ?_) | (with_reducible refine g_cons ?_) | (with_reducible refine g_call ?_)
  | (with_reducible refine g_cb ?_) | (with_reducible refine g_bm ?_) | (with_reducible refine g_lst ?_) | (with_reducible refine g_tup ?_) | (with_reducible refine iteT ?_) | (with_reducible refine iteF ?_) | (with_reducible refine g_nt ?_) | (with_reducible refine g_nf ?_)
  | (with_reducible refine g_par ?_) | (with_reducible refine g_par3 ?_) | (with_reducible refine g_two ?_) | (with_reducible refine g_three ?_) | (with_reducible refine g_ckw ?_) | (with_reducible refine g_yes ?_) | (with_reducible refine g_chain ?_) | (with_reducible refine g_gnil ?_) | (with_reducible refine g_gcons ?_) | (with_reducible refine g_fld ?_) | (with_reducible refine g_sfld ?_) | (with_reducible refine g_isN ?_) | (with_reducible refine g_nint ?_) | (with_reducible refine g_nintB ?_) | (with_reducible refine g_max ?_) | (with_reducible refine g_min ?_))))
/-- a new list of ints, none of S -/
def IT (S : List Addr) (H0 H : Hp) (v : V) (o : List Int) : Prop := ∃ b, v = .ref b ∧ H b = some (.lst (o.map V.int)) ∧ H0 b = none ∧ b ∉ S
theorem IT.ex {S : List Addr} {H0 H H' : Hp} {v : V} {o : List Int} (h : IT S H0 H v o) (e : Ex H H') : IT S H0 H' v o := by
  obtain ⟨b, h1, h2, h3, h4⟩ := h
  exact ⟨b, h1, e _ _ h2, h3, h4⟩
theorem IT.but {S : List Addr} {H0 H H' : Hp} {p : Addr} {v : V} {o : List Int} (h : IT S H0 H v o) (e : But p H H') (hp : p ∈ S) : IT S H0 H' v o := by
  obtain ⟨b, h1, h2, h3, h4⟩ := h
  exact ⟨b, h1, by rw [e b (fun z => h4 (by rw [z]; exact hp))]; exact h2, h3, h4⟩
theorem IT.weak {S S' : List Addr} {H0 H : Hp} {v : V} {o : List Int} (h : IT S H0 H v o) (e : ∀ b ∈ S', b ∈ S) : IT S' H0 H v o := by
  obtain ⟨b, h1, h2, h3, h4⟩ := h
  exact ⟨b, h1, h2, h3, fun z => h4 (e b z)⟩
theorem IT.base {S : List Addr} {H0 H1 H : Hp} {v : V} {o : List Int} (h : IT S H1 H v o) (e : Ex H0 H1) : IT S H0 H v o := by
  obtain ⟨b, h1, h2, h3, h4⟩ := h
  exact ⟨b, h1, h2, none_ex e h3, h4⟩
def LiN (K : PySem.W.Frag) (N : Hp) (v : V) (o : List Int) : Prop := ∃ b, v = .ref b ∧ SqL K N b (o.map V.int)
theorem LiN.ex {K : PySem.W.Frag} {N N' : Hp} {v : V} {o : List Int} (h : LiN K N v o) (e : Ex N N') : LiN K N' v o := by
  obtain ⟨b, h1, h2⟩ := h
  exact ⟨b, h1, ex_l e h2⟩
theorem IT.lin {K : PySem.W.Frag} {S : List Addr} {H0 H : Hp} {v : V} {o : List Int} (h : IT S H0 H v o) : LiN K (newH H0 H) v o := by
  obtain ⟨b, h1, h2, h3, h4⟩ := h
  exact ⟨b, h1, sq_of (by rw [new_none h3]; exact h2)⟩
/-- the pairs of a sum -/
def prs (b : Int) : List (List Int) := (List.range (b / 2).toNat).map fun i : Nat => [1 + (i : Int), b - (1 + (i : Int))]
def optsL (gone : Bool) (os ts : List Int) : List (List Int) := (if gone = true then [[]] else []) ++ os.map (fun o => [o]) ++ ts.flatMap prs
structure OptsOk (R : List Rl) (h : Int) (os : List (List Int)) : Prop where
  ok : ∀ o ∈ os, o.length ≤ 2 ∧ (∀ x ∈ o, 1 ≤ x ∧ x ≤ h) ∧ o.Pairwise (· ≤ ·) ∧ Legal R h o
  all : ∀ o : List Int, o.length ≤ 2 → (∀ x ∈ o, 1 ≤ x) → o.Pairwise (· ≤ ·) → Legal R h o → o ∈ os
theorem optsL_ok {R : List Rl} {h : Int} {gone : Bool} {os ts : List Int} (g : ∀ r ∈ R, Good r) (t : Told2 R h gone os ts) : OptsOk R h (optsL gone os ts) := by
  have low : ∀ {w n}, Can R h w n → 0 ≤ n := fun {w n} ⟨r, hr, _, _, z, _⟩ => by
    have := (g r hr).lo0
    omega
  constructor
  · intro o ho
    unfold optsL at ho
    rcases List.mem_append.mp ho with ho | ho
    · rcases List.mem_append.mp ho with ho | ho
      · cases hg : gone with
        | false => rw [hg] at ho; simp at ho
        | true =>
          rw [hg] at ho
          rw [if_pos rfl] at ho
          rw [List.mem_singleton.mp ho]
          refine ⟨by decide, fun x hx => absurd hx (by simp), .nil, ?_⟩
          show Can R h "none" (h - 0)
          rw [Int.sub_zero]
          exact t.gone.mp hg
      · obtain ⟨x, hx, rfl⟩ := List.mem_map.mp ho
        obtain ⟨h1, h2⟩ := (t.one x).mp hx
        have := low h2
        refine ⟨by simp, fun y hy => ?_, List.pairwise_singleton _ _, ?_⟩
        · rw [List.mem_singleton.mp hy]
          omega
        · show Can R h "one" (h - (x + 0))
          rw [Int.add_zero]
          exact h2
    · obtain ⟨b, hb, ho⟩ := List.mem_flatMap.mp ho
      obtain ⟨i, hi, rfl⟩ := List.mem_map.mp ho
      obtain ⟨h1, h2⟩ := (t.two b).mp hb
      have := low h2
      have hi2 := List.mem_range.mp hi
      refine ⟨by simp, fun y hy => ?_, ?_, ?_⟩
      · simp only [List.mem_cons, List.not_mem_nil, or_false] at hy
        rcases hy with rfl | rfl <;> omega
      · refine List.pairwise_cons.mpr ⟨fun y hy => ?_, List.pairwise_singleton _ _⟩
        rw [List.mem_singleton.mp hy]
        omega
      · show Can R h "two" (h - (1 + (i : Int) + (b - (1 + (i : Int)) + 0)))
        have e : 1 + (i : Int) + (b - (1 + (i : Int)) + 0) = b := by omega
        rw [e]
        exact h2
  · intro o hl hp hs hL
    unfold optsL
    rcases o with _ | ⟨i, _ | ⟨j, _ | ⟨k, o⟩⟩⟩
    · refine List.mem_append_left _ (List.mem_append_left _ ?_)
      have z : Can R h "none" (h - 0) := hL
      rw [Int.sub_zero] at z
      rw [if_pos (t.gone.mpr z)]
      exact List.mem_singleton_self _
    · refine List.mem_append_left _ (List.mem_append_right _ ?_)
      have z : Can R h "one" (h - (i + 0)) := hL
      rw [Int.add_zero] at z
      exact List.mem_map.mpr ⟨i, (t.one i).mpr ⟨hp i (by simp), z⟩, rfl⟩
    · refine List.mem_append_right _ ?_
      have z : Can R h "two" (h - (i + (j + 0))) := hL
      rw [Int.add_zero] at z
      have hi := hp i (by simp)
      have hj := hp j (by simp)
      have hij : i ≤ j := (List.pairwise_cons.mp hs).1 j (by simp)
      refine List.mem_flatMap.mpr ⟨i + j, (t.two _).mpr ⟨by omega, z⟩, List.mem_map.mpr ⟨(i - 1).toNat, List.mem_range.mpr (by omega), ?_⟩⟩
      have e : 1 + (((i - 1).toNat : Nat) : Int) = i := by omega
      rw [e]
      have e2 : i + j - i = j := by omega
      rw [e2]
    · simp only [List.length_cons] at hl
      omega
theorem optsL_len {gone : Bool} {os ts : List Int} (h1 : os.length ≤ 41) (h2 : ts.length ≤ 41) (h3 : ∀ b ∈ ts, b ≤ 40) : (optsL gone os ts).length ≤ 1000 := by
  unfold optsL
  have key : ∀ l : List Int, (∀ b ∈ l, b ≤ 40) → (l.flatMap prs).length ≤ 20 * l.length := fun l => by
    induction l with
    | nil => intro _; simp
    | cons b l ih =>
      intro hb
      have := ih fun x hx => hb x (List.mem_cons_of_mem _ hx)
      have h40 := hb b List.mem_cons_self
      rw [List.flatMap_cons, List.length_append, List.length_cons]
      unfold prs at this ⊢
      rw [List.length_map, List.length_range]
      omega
  have := key ts h3
  rw [List.length_append, List.length_append, List.length_map]
  split <;> simp only [List.length_cons, List.length_nil] <;> omega
def spOpts (K : PySem.W.Frag) : Sp := fun vs H Q _ => ∃ (l : Addr) (xs : List V) (R : List Rl) (h : Int), vs = [.ref l, .int h] ∧ SqL K H l xs ∧ Paired (RuleT K H) xs R ∧ Goods R ∧ 1 ≤ h ∧ h ≤ 40 ∧
  ∀ H' p ys os, Ex H H' → H p = none → H' p = some (.lst ys) → Paired (LiN K (newH H H')) ys os → OptsOk R h os → os.length ≤ 1000 → Q (.ref p) H'
section
variable {P : Program} {w : World} {K : PySem.W.Frag} {mg : Str → Option Value} {base : Heap}
theorem sc_w_a_options : FnScope ["_law_raw", "_law_heap", "_law_goes", "_law_ones", "_law_twos", "_law_found", "_law_both", "_law_one"] ["_law_raw", "_law_heap"] (defScope st_w_a_options) := ⟨rfl, rfl, rfl, by decide +kernel, rfl, by decide +kernel, by decide +kernel⟩
theorem ok_w_a_options (T : Txt K mg) : Kept P w K mg base CX0 2 "_law_a_options" ["_law_raw", "_law_heap"] (spOpts K) := by
  have G_w_a_taken := ok_w_a_taken (P := P) (w := w) (base := base) T
  refine kept0 T.d_w_a_options sc_w_a_options (fun vs H Q E h => ?_) (fun cdv A outer s H0 vs Q E hr h => ?_)
  · obtain ⟨l, xs, R, h, rfl, _⟩ := h
    rfl
  · obtain ⟨l, xs, R, h, rfl, hl, hR, g, h1, h40, q⟩ := h
    refine ⟨_, (pss_cons (ps_asg (pe_c G_w_a_taken (hr.mono (by decide)) pass0 (pa_cons (pv 0) (pa_cons (pv 1) pa_nil))) (pg_tup rfl (pgs_cons (pg_name (i := 2) sc_w_a_options.nd rfl (Or.inl rfl)) (pgs_cons (pg_name (i := 3) sc_w_a_options.nd rfl (Or.inl rfl)) (pgs_cons (pg_name (i := 4) sc_w_a_options.nd rfl (Or.inl rfl)) pgs_nil)))))
      (pss_cons (ps_set (i := 5) sc_w_a_options.nd rfl (Or.inl rfl) (pe_ifExp (pt_val (pv 2)) (pe_lst (pa_cons (pe_lst pa_nil) pa_nil)) (pe_lst pa_nil)))
      (pss_cons (ps_expr (pe_bmK K PySem.F.plainAttrs_list PySem.F.slot_list_extend PySem.F.type_list_extend mt_extend (pv 5) (pa_cons (pe_lc rfl (own := [("_law_one", 7)]) sc_w_a_options.nd (pi_q (pv 3)) (blkOk_by (own := [("_law_one", 7)]) (N := ["_law_raw", "_law_heap", "_law_goes", "_law_ones", "_law_twos", "_law_found", "_law_both", "_law_one"]) (sc := defScope st_w_a_options) (by decide +kernel)) (fun _ _ _ _ _ => (pg_name (i := 7) sc_w_a_options.nd rfl (Or.inl rfl))) (fun _ _ _ _ _ => pts_nil) (fun _ _ _ _ _ => (pe_lst (pa_cons (pv 7) pa_nil)))) pa_nil)))
      (pss_cons (ps_for PassesOwn.never rfl (pi_q (pv 4)) (pg_name (i := 6) sc_w_a_options.nd rfl (Or.inr rfl)) (pss_one (ps_expr (pe_bmK K PySem.F.plainAttrs_list PySem.F.slot_list_extend PySem.F.type_list_extend mt_extend (pv 5) (pa_cons (pe_lc rfl (own := [("_law_one", 7)]) sc_w_a_options.nd (pi_range2 (by rfl) T.f_range (pa_cons pe_int (pa_cons (pe_op op_add (pe_op op_fdivN (pv 6) pe_int) pe_int) pa_nil))) (blkOk_by (own := [("_law_one", 7)]) (N := ["_law_raw", "_law_heap", "_law_goes", "_law_ones", "_law_twos", "_law_found", "_law_both", "_law_one"]) (sc := defScope st_w_a_options) (by decide +kernel)) (fun _ _ _ _ _ => (pg_name (i := 7) sc_w_a_options.nd rfl (Or.inl rfl))) (fun _ _ _ _ _ => pts_nil) (fun _ _ _ _ _ => (pe_lst (pa_cons (pv 7) (pa_cons (pe_op op_sub (pv 6) (pv 7)) pa_nil))))) pa_nil)))))
      (pss_one (ps_ret (pe_callB (cr_sortLs (units_of hr)) (by rfl) T.f_sorted (by decide +kernel) (pa_cons (pv 5) pa_nil)))))))), ?_⟩
    walk_at "k"
    refine ⟨l, xs, R, h, rfl, hl, hR, g, h1, h40, fun H1 t d1 d2 gone os ts e1 ht hd1 hd2 told => ?_⟩
    walk_at "k"
    refine g_gtup ht rfl ?_
    with_reducible refine g_gcons ?_
    with_reducible refine g_name ?_
    with_reducible refine g_gcons ?_
    with_reducible refine g_name ?_
    with_reducible refine g_gcons ?_
    with_reducible refine g_name ?_
    with_reducible refine g_gnil ?_
    with_reducible refine g_seq ?_
    with_reducible refine g_asg ?_
    refine g_ecutR (fun v H' => ∃ f acc, v = .ref f ∧ H1 f = none ∧ Ex H1 H' ∧ H' f = some (.lst acc) ∧ Paired (IT [f] H0 H') acc (if gone = true then [[]] else [])) (fun Q' q' => ?_) ?_
    · walk_at "k"
      cases gone with
      | true =>
        walk_at "k"
        refine g_new (sz (of_decide_eq_true rfl)) fun m H2 nm e2 hm b2 => ?_
        walk_at "k"
        refine g_new (sz (of_decide_eq_true rfl)) fun f H3 nf e3 hf b3 => ?_
        refine q' _ _ ⟨f, _, rfl, none_ex e2 nf, e2.trans e3, hf, .cons ⟨m, rfl, e3 _ _ hm, none_ex e1 nm, ?_⟩ .nil⟩
        intro z
        rw [List.mem_singleton.mp z, nf] at hm
        cases hm
      | false =>
        walk_at "k"
        refine g_new (sz (of_decide_eq_true rfl)) fun f H3 nf e3 hf b3 => ?_
        exact q' _ _ ⟨f, _, rfl, nf, e3, hf, .nil⟩
    rintro _ H2 ⟨f, acc, rfl, nf1, e2, hf, hacc⟩
    have nf0 := none_ex e1 nf1
    walk_at "k"
    refine ⟨ty_L hf, ?_⟩
    walk_at "k"
    refine g_lcQ (a := d1) (xs := os.map V.int) (G := H1) (fun R hR => ?_) (.inl hd1) e2 fun L hL => ⟨fun j ac H => Ex H2 H ∧ Paired (IT [f, L] H0 H) ac ((os.take j).map fun o => [o]), fun H4 b4 e4 _ => ⟨e4, by rw [List.take_zero]; exact .nil⟩, fun _ _ _ z => e2.trans z.1, ?_, ?_⟩
    · walk_at "k"
      exact hR
    · rintro j ac y H3 hy hal hL3 ⟨e3, hac⟩
      rw [List.getElem?_map] at hy
      cases hu2 : os[j]? with
      | none => rw [hu2] at hy; cases hy
      | some o =>
        rw [hu2] at hy
        obtain rfl : V.int o = y := Option.some.inj hy
        refine g_lcs ?_
        walk_at "k"
        refine ⟨rfl, ?_⟩
        walk_at "k"
        refine g_new (sz (of_decide_eq_true rfl)) fun m H4 nm e4 hm b4 => ?_
        have hmL : m ∉ [f, L] := fun z => by
          rcases List.mem_cons.mp z with rfl | z
          · rw [e3 _ _ hf] at nm
            cases nm
          · rw [List.mem_singleton.mp z, hL3] at nm
            cases nm
        refine lcT_of hal (by have := (List.getElem?_eq_some_iff.mp hu2).1; have := told.l1; omega) (e4 _ _ hL3) fun H5 b5 h5 => ⟨ex_but (e3.trans e4) hL b5, ?_⟩
        rw [take_snoc hu2, List.map_append]
        exact prd_app (prd_mono (fun _ _ z => (z.ex e4).but b5 (by simp)) hac) (.cons (IT.but ⟨m, rfl, hm, none_ex ((e1.trans e2).trans e3) nm, hmL⟩ b5 (by simp)) .nil)
    rintro ac H3 hal hL3 ⟨e3, hac⟩
    rw [List.length_map, List.take_length] at hac
    walk_at "k"
    have hl1 := told.l1
    have hal2 := prd_len hac
    rw [List.length_map] at hal2
    have hacl : acc.length ≤ 1 := by
      have := prd_len hacc
      split at this <;> simp only [List.length_cons, List.length_nil] at this <;> omega
    refine g_ext (e3 _ _ hf) hL3 (by omega) fun H4 b4 h4 => ?_
    walk_at "k"
    have hpre : Paired (IT [f] H0 H4) (acc ++ ac) ((if gone = true then [[]] else []) ++ os.map fun o => [o]) := prd_app (prd_mono (fun _ _ z => (z.ex e3).but b4 (by simp)) hacc) (prd_mono (fun _ _ z => (z.weak (by simp)).but b4 (by simp)) hac)
    have e14 : Ex H1 H4 := ex_but (e2.trans e3) nf1 b4
    have hb40 : ∀ b ∈ ts, b ≤ 40 ∧ 2 ≤ b := fun b hb => by
      obtain ⟨z1, r, hr', _, _, z2, _⟩ := (told.two b).mp hb
      have := (g.good r hr').lo0
      omega
    have hl2 := told.l2
    refine g_forI ?_
    walk_at "k"
    refine over_for (G := H1) (xs := ts.map V.int) (.inl hd2) e14 (fun i σ H => ∃ (o6 o7 : Option V) (ac : List V), σ = [some (.ref l), some (.int h), some (.bl gone), some (.ref d1), some (.ref d2), some (.ref f), o6, o7] ∧ Ex H1 H ∧ H f = some (.lst ac) ∧ ac.length ≤ 42 + 20 * i ∧
      Paired (IT [f] H0 H) ac ((if gone = true then [[]] else []) ++ os.map (fun o => [o]) ++ (ts.take i).flatMap prs)) ?_ ?_ ?_ ?_
    · refine ⟨none, none, acc ++ ac, rfl, e14, h4, by rw [List.length_append]; omega, ?_⟩
      rw [List.take_zero, List.flatMap_nil, List.append_nil]
      exact hpre
    · rintro i σ H ⟨_, _, _, _, z, _⟩
      exact z
    · rintro i x σ H hx ⟨o6, o7, ac5, rfl, eH, hfH, hl5, hp5⟩
      rw [List.getElem?_map] at hx
      cases hu2 : ts[i]? with
      | none => rw [hu2] at hx; cases hx
      | some b =>
        rw [hu2] at hx
        obtain rfl : V.int b = x := Option.some.inj hx
        obtain ⟨hb1, hb2⟩ := hb40 b (List.mem_of_getElem? hu2)
        have hi := (List.getElem?_eq_some_iff.mp hu2).1
        walk_at "k"
        refine ⟨ty_L hfH, ?_⟩
        walk_at "k"
        refine g_lcR2 (lo := 1) (hi := b / 2 + 1) (fun R hR => ?_) (by omega) fun L hL => ⟨fun j ac H' => Ex H H' ∧ Paired (IT [f, L] H0 H') ac ((prs b).take j), fun H6 b6 e6 _ => ⟨e6, by rw [List.take_zero]; exact .nil⟩, ?_, ?_⟩
        · walk_at "k"
          refine g_I ⟨by decide, by decide⟩ ?_
          walk_at "k"
          rw [Int.fdiv_eq_ediv_of_nonneg _ (by decide)]
          exact hR
        · rintro j ac6 H6 hj hal6 hL6 ⟨e6, hac6⟩
          refine g_lcs ?_
          walk_at "k"
          refine ⟨rfl, ?_⟩
          walk_at "k"
          refine g_new (sz (of_decide_eq_true rfl)) fun m H7 nm e7 hm b7 => ?_
          have hmL : m ∉ [f, L] := fun z => by
            rcases List.mem_cons.mp z with rfl | z
            · rw [e6 _ _ hfH] at nm
              cases nm
            · rw [List.mem_singleton.mp z, hL6] at nm
              cases nm
          have hpj : (prs b)[j]? = some [1 + (j : Int), b - (1 + (j : Int))] := by
            unfold prs
            rw [List.getElem?_map, List.getElem?_range (by omega)]
            rfl
          refine lcT_of hal6 (by omega) (e7 _ _ hL6) fun H8 b8 h8 => ⟨ex_but (e6.trans e7) hL b8, ?_⟩
          rw [take_snoc hpj]
          exact prd_app (prd_mono (fun _ _ z => (z.ex e7).but b8 (by simp)) hac6) (.cons (IT.but ⟨m, rfl, hm, none_ex ((e1.trans eH).trans e6) nm, hmL⟩ b8 (by simp)) .nil)
        · rintro ac6 H6 hal6 hL6 ⟨e6, hac6⟩
          walk_at "k"
          have hpl : (prs b).length = (b / 2).toNat := by
            unfold prs
            rw [List.length_map, List.length_range]
          have hac6l : ac6.length ≤ 20 := by omega
          have et : (b / 2 + 1 - 1).toNat = (prs b).length := by omega
          rw [et, List.take_length] at hac6
          refine g_ext (e6 _ _ hfH) hL6 (by omega) fun H7 b7 h7 => ?_
          walk_at "k"
          refine ⟨_, _, ac5 ++ ac6, rfl, ex_but (eH.trans e6) nf1 b7, h7, by rw [List.length_append]; omega, ?_⟩
          rw [take_snoc hu2, List.flatMap_append, ← List.append_assoc]
          have e9 : List.flatMap prs [b] = prs b := by simp
          rw [e9]
          exact prd_app (prd_mono (fun _ _ z => (z.ex e6).but b7 (by simp)) hp5) (prd_mono (fun _ _ z => (z.weak (by simp)).but b7 (by simp)) hac6)
    · rintro σ H ⟨o6, o7, ac5, rfl, eH, hfH, hl5, hp5⟩
      rw [List.length_map, List.take_length] at hp5
      walk_at "k"
      obtain ⟨zs, z1, z2, z3⟩ := prd_zip hp5
      have hlz : SqL K H f (zs.map (·.1)) := by
        rw [z1]
        exact sq_of hfH
      have hit : ∀ z : V × List Int, z ∈ zs → ∃ b, z.1 = V.ref b ∧ SqL K H b (z.2.map V.int) := fun z hz => by
        obtain ⟨b, y1, y2, _⟩ := z3 z hz
        exact ⟨b, y1, sq_of y2⟩
      refine ⟨f, zs, rfl, hlz, hit, ?_⟩
      intro p (ys : List (V × List Int)) np hys
      have eP : Ex H (upd H p (.lst (ys.map (·.1)))) := Evl.Ex.new np
      have e0P : Ex H0 (upd H p (.lst (ys.map (·.1)))) := (e1.trans eH).trans eP
      have z9 : upd H p (.lst (ys.map (·.1))) p = some (.lst (ys.map (·.1))) := upd_same
      have hit2 : ∀ z : V × List Int, z ∈ ys → LiN K (newH H0 (upd H p (.lst (ys.map (·.1))))) z.1 z.2 := fun z hz => ((z3 z (hys.mem_iff.mp hz)).ex eP).lin
      have hpp := prd_of hit2
      have hperm : (ys.map (·.2)).Perm (optsL gone os ts) := by
        unfold optsL
        rw [← z2]
        exact hys.map _
      have hok := optsL_ok g.good told
      have hok2 : OptsOk R h (ys.map (·.2)) := ⟨fun o ho => hok.ok o (hperm.mem_iff.mp ho), fun o a1 a2 a3 a4 => hperm.mem_iff.mpr (hok.all o a1 a2 a3 a4)⟩
      have hlen : (ys.map (·.2)).length ≤ 1000 := by
        rw [hperm.length_eq]
        exact optsL_len hl1 hl2 fun b hb => (hb40 b hb).1
      exact q _ p _ (ys.map (·.2)) e0P (none_ex (e1.trans eH) np) z9 hpp hok2 hlen
end
end Tk
namespace Tk
open PySem PySem.Spec PyProof.Rows L2
open Evl (Ex ex_l ex_t ex_rd sq_of st_of fresh_back)
local macro_rules | `(tactic| walk_at "g") => `(tactic| (repeat (first
  | (with_reducible refine g_seq ?_) | (with_reducible refine g_asg ?_) | (with_reducible refine g_name ?_) | (with_reducible refine g_sub ?_)
  | ((with_reducible refine' g_var ?e ?_); (case e => exact rfl)) | (with_reducible refine g_c ?_) | (with_reducible refine g_op ?_) | (with_reducible refine g_un ?_) | (with_reducible refine g_U ?_)
  | (with_reducible refine g_I0 ?_) | (with_reducible refine g_eqI ?_) | (with_reducible refine g_neI ?_) | (with_reducible refine g_eqS ?_) | (with_reducible refine g_neS ?_) | (with_reducible refine g_eqB ?_) | (with_reducible refine g_neB ?_)
  | (with_reducible refine g_test ?_) | (with_reducible refine g_tB ?_) | (with_reducible refine g_bl ?_) | (with_reducible refine g_and ?_) | (with_reducible refine g_or ?_) | (with_reducible refine g_not ?_)
  | (with_reducible refine g_andV ?_) | (with_reducible refine g_orV ?_) | (with_reducible refine g_notV ?_) | (with_reducible refine g_ifE ?_) | (with_reducible refine g_ifS ?_)
  | (with_reducible refine g_next ?_) | (with_reducible refine g_ret ?_) | (with_reducible refine g_drop ?_) | (with_reducible refine g_nil ?_) | (with_reducible refine g_cons ?_) | (with_reducible refine g_call ?_)
  | (with_reducible refine g_cb ?_) | (with_reducible refine g_bm ?_) | (with_reducible refine g_lst ?_) | (with_reducible refine g_tup ?_) | (with_reducible refine iteT ?_) | (with_reducible refine iteF ?_) | (with_reducible refine g_nt ?_) | (with_reducible refine g_nf ?_)
  | (with_reducible refine g_par ?_) | (with_reducible refine g_par3 ?_) | (with_reducible refine g_two ?_) | (with_reducible refine g_three ?_) | (with_reducible refine g_ckw ?_) | (with_reducible refine g_yes ?_) | (with_reducible refine g_chain ?_) | (with_reducible refine g_gnil ?_) | (with_reducible refine g_gcons ?_) | (with_reducible refine g_fld ?_) | (with_reducible refine g_sfld ?_) | (with_reducible refine g_isN ?_) | (with_reducible refine g_nint ?_) | (with_reducible refine g_nintB ?_) | (with_reducible refine g_max ?_) | (with_reducible refine g_min ?_))))
local macro_rules | `(tactic| walk_at "k") => `(tactic| (repeat (first
  | (with_reducible refine g_seq ?_) | (with_reducible refine g_asg ?_) | (with_reducible refine g_name ?_) | (with_reducible refine g_sub ?_)
  | ((with_reducible refine' g_var ?e ?_); (case e => exact rfl)) | (with_reducible refine g_c ?_) | (with_reducible refine g_op ?_) | (with_reducible refine g_un ?_) | (with_reducible refine g_U ?_)
  | (with_reducible refine g_I0 ?_) | (with_reducible refine g_eqI ?_) | (with_reducible refine g_neI ?_) | (with_reducible refine g_eqS ?_) | (with_reducible refine g_neS ?_) | (with_reducible refine g_eqB ?_) | (with_reducible refine g_neB ?_)
  | (with_reducible refine g_test ?_) | (with_reducible refine g_tB ?_) | (with_reducible refine g_bl ?_) | (with_reducible refine g_and ?_) | (with_reducible refine g_or ?_) | (with_reducible refine g_not ?_)
  | (with_reducible refine g_andV ?_) | (with_reducible refine g_orV ?_) | (with_reducible refine g_notV ?_) | (with_reducible refine g_ifE ?_)
  | (with_reducible refine g_next ?_) | (with_reducible refine g_ret ?_) | (with_reducible refine g_drop ?_) | (with_reducible refine g_nil ?_) | (with_reducible refine g_cons ?_) | (with_reducible refine g_call ?_)
  | (with_reducible refine g_cb ?_) | (with_reducible refine g_bm ?_) | (with_reducible refine g_lst ?_) | (with_reducible refine g_tup ?_) | (with_reducible refine iteT ?_) | (with_reducible refine iteF ?_) | (with_reducible refine g_nt ?_) | (with_reducible refine g_nf ?_)
  | (with_reducible refine g_par ?_) | (with_reducible refine g_par3 ?_) | (with_reducible refine g_two ?_) | (with_reducible refine g_three ?_) | (with_reducible refine g_ckw ?_) | (with_reducible refine g_yes ?_) | (with_reducible refine g_chain ?_) | (with_reducible refine g_gnil ?_) | (with_reducible refine g_gcons ?_) | (with_reducible refine g_fld ?_) | (with_reducible refine g_sfld ?_) | (with_reducible refine g_isN ?_) | (with_reducible refine g_nint ?_) | (with_reducible refine g_nintB ?_) | (with_reducible refine g_max ?_) | (with_reducible refine g_min ?_))))
theorem WayT.but {K : PySem.W.Frag} {H H' : Hp} {n : Int} {p : Addr} {ys : List V} {v : V} {r : Rl} (q : WayT K H n v r) (b : But p H H') (h : H p = some (.lst ys)) : WayT K H' n v r := (q.del h).ex (del_but b)
def spWord (K : PySem.W.Frag) : Sp := fun vs H Q _ => ∃ (l : Addr) (o : List Int), vs = [.ref l] ∧ SqL K H l (o.map V.int) ∧ o.length ≤ 2 ∧ ∀ H', Ex H H' → Q (.str (word o.length)) H'
def spBWays (K : PySem.W.Frag) : Sp := fun vs H Q _ => ∃ (l lo : Addr) (xs : List V) (R : List Rl) (h : Int) (o : List Int), vs = [.ref l, .int h, .ref lo] ∧ SqL K H l xs ∧ Paired (RuleT K H) xs R ∧ Goods R ∧ Srt R ∧ SqL K H lo (o.map V.int) ∧ o.length ≤ 2 ∧ (∀ x ∈ o, 1 ≤ x) ∧
  ∀ H' p ys, Ex H H' → H p = none → H' p = some (.lst ys) → Paired (WayT K H' (h - o.sum)) ys (ways R h o) → Q (.ref p) H'
theorem sum_nn {o : List Int} (h : ∀ x ∈ o, 1 ≤ x) : 0 ≤ o.sum := (sum_pos h).1
theorem way_b {r : Rl} {h n : Int} {w : Str} (hn : n ≤ h) : isWay h n w r = (decide (r.lf = w) && decide (h % r.mo = r.re) && decide (r.lo ≤ n) && (match r.hi with | none => true | some k => decide (n ≤ k))) := by
  unfold isWay most
  cases r.hi with
  | none =>
    show _ = (_ && true)
    have e : decide (n ≤ h) = true := decide_eq_true hn
    show (_ && decide (n ≤ h)) = _
    rw [e]
  | some k =>
    show (_ && decide (n ≤ if h < k then h else k)) = (_ && decide (n ≤ k))
    have e : (n ≤ if h < k then h else k) ↔ n ≤ k := by split <;> omega
    rw [decide_eq_decide.mpr e]
section
variable {P : Program} {w : World} {K : PySem.W.Frag} {mg : Str → Option Value} {base : Heap}
theorem sc_w_b_word : FnScope ["_law_option"] ["_law_option"] (defScope st_w_b_word) := ⟨rfl, rfl, rfl, by decide +kernel, rfl, by decide +kernel, by decide +kernel⟩
theorem ok_w_b_word (T : Txt K mg) : Kept P w K mg base CX0 1 "_law_b_word" ["_law_option"] (spWord K) := by
  refine kept0 T.d_w_b_word sc_w_b_word (fun vs H Q E h => ?_) (fun cdv A outer s H0 vs Q E hr h => ?_)
  · obtain ⟨l, o, rfl, _⟩ := h
    rfl
  · obtain ⟨l, o, rfl, hl, h2, q⟩ := h
    refine ⟨_, (pss_one (ps_ret (pe_ix ix_list (pe_lst (pa_cons pe_str (pa_cons pe_str (pa_cons pe_str pa_nil)))) (pe_callB (cLenK K) (by rfl) T.f_len (by decide +kernel) (pa_cons (pv 0) pa_nil)) (fun _ _ => rfl)))), ?_⟩
    walk_at "k"
    refine g_new (sz (of_decide_eq_true rfl)) fun m H1 nm e1 hm b1 => ?_
    walk_at "k"
    refine g_len (.inl (ex_l e1 hl)) ?_
    rw [List.length_map]
    refine g_ixL (v := .str (word o.length)) (sq_of hm) ?_ (q H1 e1)
    rcases o with _ | ⟨i, _ | ⟨j, _ | ⟨k, o⟩⟩⟩
    · rfl
    · rfl
    · rfl
    · simp only [List.length_cons] at h2
      omega
theorem sc_w_b_ways : FnScope ["_law_raw", "_law_heap", "_law_option", "_law_found", "_law_number", "_law_rule", "_law_low", "_law_high", "_law_left", "_law_rest", "_law_modulus"] ["_law_raw", "_law_heap", "_law_option"] (defScope st_w_b_ways) := ⟨rfl, rfl, rfl, by decide +kernel, rfl, by decide +kernel, by decide +kernel⟩
theorem ok_w_b_ways (T : Txt K mg) : Kept P w K mg base CX0 4 "_law_b_ways" ["_law_raw", "_law_heap", "_law_option"] (spBWays K) := by
  have G_w_b_word := ok_w_b_word (P := P) (w := w) (base := base) T
  have G_w_a_line := ok_w_a_line (P := P) (w := w) (base := base) T
  refine kept0 T.d_w_b_ways sc_w_b_ways (fun vs H Q E h => ?_) (fun cdv A outer s H0 vs Q E hr h => ?_)
  · obtain ⟨l, lo, xs, R, h, o, rfl, _⟩ := h
    rfl
  · obtain ⟨l, lo, xs, R, h, o, rfl, hl, hR, g, hso, hlo, ho2, hop, q⟩ := h
    refine ⟨_, (pss_cons (ps_par (i := 3) (j := 4) rfl sc_w_b_ways.nd rfl rfl (by decide) rfl rfl (pa_cons (pe_lst pa_nil) (pa_cons (pe_op op_sub (pv 1) (pe_callB (cr_sum rfl) (by rfl) T.f_sum (by decide +kernel) (pa_cons (pv 2) pa_nil))) pa_nil)) rfl)
      (pss_cons (ps_for PassesOwn.never rfl (pi_q (pe_sortK line G_w_a_line (hr.mono (by decide)) T.f_sorted (pa_cons (pv 0) pa_nil) (pk_cons (pe_glob (v := .ref (He.ga K "_law_a_line")) (by rfl) (kept_g G_w_a_line) rfl) pk_nil))) (pg_name (i := 5) sc_w_b_ways.nd rfl (Or.inl rfl)) (pss_cons (ps_asg (pv 5) (pg_tup rfl (pgs_cons (pg_name (i := 6) sc_w_b_ways.nd rfl (Or.inl rfl)) (pgs_cons (pg_name (i := 7) sc_w_b_ways.nd rfl (Or.inl rfl)) (pgs_cons (pg_name (i := 8) sc_w_b_ways.nd rfl (Or.inl rfl)) (pgs_cons (pg_name (i := 9) sc_w_b_ways.nd rfl (Or.inl rfl)) (pgs_cons (pg_name (i := 10) sc_w_b_ways.nd rfl (Or.inl rfl)) pgs_nil)))))))
      (pss_one (ps_if (PW.pt (pw_and (pt_cmpR op_eq (pv 8) (pe_c G_w_b_word (hr.mono (by decide)) pass0 (pa_cons (pv 2) pa_nil)) (nomark _)) (pw_and (pt_cmpR op_eq (pe_op op_mod (pe_callTy cInt (by rfl) T.f_int (by decide +kernel) (pa_cons (pv 1) pa_nil)) (pv 10)) (pv 9) (nomark _)) (pw_and1 (pt_cmpR op_le (pv 6) (pv 4) (nomark _)))))) (pss_one (ps_expr (pe_bmK K PySem.F.plainAttrs_list PySem.F.slot_list_extend PySem.F.type_list_extend mt_extend (pv 3) (pa_cons (pe_ifExp (PW.pt (pw_or (pt_cmpR op_isN (pv 7) pe_non (nomark _)) (pw_or1 (pt_cmpR op_le (pv 4) (pv 7) (nomark _))))) (pe_lst (pa_cons (pe_tup (pa_cons (pv 5) (pa_cons (pv 4) pa_nil))) pa_nil)) (pe_lst pa_nil)) pa_nil)))) pss_nil))))
      (pss_one (ps_ret (pv 3))))), ?_⟩
    walk_at "k"
    refine g_new (sz (of_decide_eq_true rfl)) fun f H1 nf e1 hf b1 => ?_
    walk_at "k"
    refine g_sum (ex_l e1 hlo) ?_
    walk_at "k"
    obtain ⟨n, hn⟩ : ∃ n, n = h - o.sum := ⟨_, rfl⟩
    have hnh : n ≤ h := by
      have := sum_nn hop
      omega
    rw [← hn]
    refine g_forI ?_
    walk_at "k"
    obtain ⟨zs, z1, z2, z3⟩ := prd_zip hR
    have hlz : SqL K H1 l (zs.map (·.1)) := by
      rw [z1]
      exact ex_l e1 hl
    have hkz : ∀ z ∈ zs, spLine K [z.1] H1 (fun v H' => v = .str (line z.2) ∧ H' = H1) (fun _ _ _ => False) := fun z hz => by
      refine ⟨z.1, z.2, rfl, (z3 z hz).ex e1, g.good z.2 ?_, rfl, rfl⟩
      rw [← z2]
      exact List.mem_map_of_mem hz
    refine ⟨l, zs, rfl, rfl, hlz, hkz, ?_⟩
    intro p (ys : List (V × Rl)) np hys hsrt
    have hm : ∀ z : V × Rl, z ∈ ys → RuleT K H1 z.1 z.2 := fun z hz => (z3 z (hys.mem_iff.mp hz)).ex e1
    have hpp := rules_out np hm
    have hpe : (ys.map (·.2)).Perm R := by
      rw [← z2]
      exact hys.map _
    have hss := srt_map hsrt
    have hRe : ys.map (·.2) = R := srt_uniq (key := line) (fun x hx y hy e => line_inj (g.good x (hpe.mem_iff.mp hx)) (g.good y (hpe.mem_iff.mp hy)) e) hpe hss hso
    obtain ⟨H2, hH2⟩ : ∃ H2, H2 = upd H1 p (.lst (ys.map (·.1))) := ⟨_, rfl⟩
    obtain ⟨us, hus⟩ : ∃ us, us = ys.map (·.1) := ⟨_, rfl⟩
    have e2 : Ex H1 H2 := by
      rw [hH2]
      exact Evl.Ex.new np
    have hp2 : H2 p = some (.lst us) := by
      rw [hH2, hus]
      exact upd_same
    rw [hRe, ← hus] at hpp
    rw [← hus] at hH2
    rw [← hH2] at hpp
    rw [← hus, ← hH2]
    have hpf : p ≠ f := fun z => by rw [z, hf] at np; cases np
    have hf2 := e2 _ _ hf
    have hRd : Paired (RuleT K (del H2 f)) us R := prd_mono (fun _ _ z => z.del hf2) hpp
    have hlo2 : SqL K (del H2 f) lo (o.map V.int) := ex_l (ex_del (e1.trans e2) nf) hlo
    obtain ⟨w', hw⟩ : ∃ w', w' = word o.length := ⟨_, rfl⟩
    have hways : ways R h o = R.filter (isWay h n w') := by rw [hn, hw]; rfl
    rw [hways, ← hn] at q
    refine over_for (G := del H2 f) (xs := us) (.inl (sq_of (by rw [del_ne hpf]; exact hp2))) del_ex (fun i σ H => ∃ (o5 o6 o7 o8 o9 o10 : Option V) (acc : List V), σ = [some (.ref l), some (.int h), some (.ref lo), some (.ref f), some (.int n), o5, o6, o7, o8, o9, o10] ∧ Ex (del H2 f) H ∧ H f = some (.lst acc) ∧ acc.length ≤ i ∧
      Paired (WayT K H n) acc ((R.take i).filter (isWay h n w'))) ?_ ?_ ?_ ?_
    · exact ⟨none, none, none, none, none, none, [], rfl, del_ex, hf2, Nat.le_refl _, by rw [List.take_zero]; exact .nil⟩
    · rintro i σ H ⟨_, _, _, _, _, _, _, _, z, _⟩
      exact z
    · rintro i x σ H hx ⟨o5, o6, o7, o8, o9, o10, acc, rfl, eH, hfH, hal, hacc⟩
      obtain ⟨r, hr', b', rfl, hrt⟩ := prd_get hRd hx
      have gr := g.good r (List.mem_of_getElem? hr')
      have hmo := gr.mo1
      have hi6 : i < 6 := by
        have := (List.getElem?_eq_some_iff.mp hr').1
        have := g.len
        omega
      have hwb := way_b (r := r) (w := w') hnh
      walk_at "k"
      refine g_gtup (ex_t eH hrt) rfl ?_
      walk_at "k"
      with_reducible refine g_ifS ?_
      walk_at "k"
      refine ⟨lo, o, rfl, ex_l eH hlo2, ho2, fun H3 e3 => ?_⟩
      rw [← hw]
      have hf3 := e3 _ _ hfH
      have e03 := eH.trans e3
      have hac3 : Paired (WayT K H3 n) acc ((R.take i).filter (isWay h n w')) := prd_mono (fun _ _ z => z.ex e3) hacc
      walk_at "k"
      by_cases c1 : r.lf = w'
      · rw [decide_eq_true c1]
        walk_at "k"
        refine g_I (by omega) ?_
        walk_at "k"
        by_cases c2 : h % r.mo = r.re
        · rw [decide_eq_true c2]
          walk_at "k"
          by_cases c3 : r.lo ≤ n
          · rw [decide_eq_true c3]
            walk_at "k"
            refine ⟨ty_L hf3, ?_⟩
            walk_at "k"
            cases hhi : r.hi with
            | none =>
              rw [show decide (hv none = V.non) = true from rfl]
              walk_at "k"
              refine g_newT (sz (of_decide_eq_true rfl)) fun t H4 nt e4 ht b4 => ?_
              walk_at "k"
              refine g_new (sz (of_decide_eq_true rfl)) fun m H5 nm e5 hm b5 => ?_
              walk_at "k"
              have hf5 := e5 _ _ (e4 _ _ hf3)
              refine g_ext hf5 hm (by simp only [List.length_cons, List.length_nil]; omega) fun H6 b6 h6 => ?_
              walk_at "k"
              refine ⟨_, _, _, _, _, _, acc ++ [.ref t], rfl, ex_but (e03.trans (e4.trans e5)) del_same b6, h6, by rw [List.length_append]; simp only [List.length_cons, List.length_nil]; omega, ?_⟩
              rw [take_snoc hr', List.filter_append, List.filter_cons_of_pos (by rw [hwb]; simp [c1, c2, c3, hhi]), List.filter_nil]
              refine prd_app (prd_mono (fun _ _ z => ((z.ex e4).ex e5).but b6 hf5) hac3) (.cons (WayT.but ⟨t, .ref b', rfl, ex_t e5 (st_of ht), b', rfl, ex_t (e03.trans (e4.trans e5)) hrt⟩ b6 hf5) .nil)
            | some k =>
              rw [show decide (hv (some k) = V.non) = false from rfl]
              walk_at "k"
              by_cases c4 : n ≤ k
              · rw [decide_eq_true c4]
                walk_at "k"
                have hhi : r.hi = some k ∧ n ≤ k := ⟨hhi, c4⟩
                refine g_newT (sz (of_decide_eq_true rfl)) fun t H4 nt e4 ht b4 => ?_
                walk_at "k"
                refine g_new (sz (of_decide_eq_true rfl)) fun m H5 nm e5 hm b5 => ?_
                walk_at "k"
                have hf5 := e5 _ _ (e4 _ _ hf3)
                refine g_ext hf5 hm (by simp only [List.length_cons, List.length_nil]; omega) fun H6 b6 h6 => ?_
                walk_at "k"
                refine ⟨_, _, _, _, _, _, acc ++ [.ref t], rfl, ex_but (e03.trans (e4.trans e5)) del_same b6, h6, by rw [List.length_append]; simp only [List.length_cons, List.length_nil]; omega, ?_⟩
                rw [take_snoc hr', List.filter_append, List.filter_cons_of_pos (by rw [hwb]; simp [c1, c2, c3, hhi]), List.filter_nil]
                refine prd_app (prd_mono (fun _ _ z => ((z.ex e4).ex e5).but b6 hf5) hac3) (.cons (WayT.but ⟨t, .ref b', rfl, ex_t e5 (st_of ht), b', rfl, ex_t (e03.trans (e4.trans e5)) hrt⟩ b6 hf5) .nil)
              · rw [decide_eq_false c4]
                walk_at "k"
                have hhi : r.hi = some k ∧ ¬ n ≤ k := ⟨hhi, c4⟩
                refine g_new (sz (of_decide_eq_true rfl)) fun m H5 nm e5 hm b5 => ?_
                walk_at "k"
                have hf5 := e5 _ _ hf3
                refine g_ext hf5 hm (by simp only [List.length_nil]; omega) fun H6 b6 h6 => ?_
                walk_at "k"
                rw [List.append_nil] at h6
                refine ⟨_, _, _, _, _, _, acc, rfl, ex_but (e03.trans e5) del_same b6, h6, by omega, ?_⟩
                rw [take_snoc hr', List.filter_append, List.filter_cons_of_neg (by rw [hwb]; simp [hhi]), List.filter_nil, List.append_nil]
                exact prd_mono (fun _ _ z => (z.ex e5).but b6 hf5) hac3
          · rw [decide_eq_false c3]
            walk_at "k"
            have hno := c3
            refine ⟨_, _, _, _, _, _, acc, rfl, e03, hf3, by omega, ?_⟩
            rw [take_snoc hr', List.filter_append, List.filter_cons_of_neg (by rw [hwb]; simp [hno]), List.filter_nil, List.append_nil]
            exact hac3
        · rw [decide_eq_false c2]
          walk_at "k"
          have hno := c2
          refine ⟨_, _, _, _, _, _, acc, rfl, e03, hf3, by omega, ?_⟩
          rw [take_snoc hr', List.filter_append, List.filter_cons_of_neg (by rw [hwb]; simp [hno]), List.filter_nil, List.append_nil]
          exact hac3
      · rw [decide_eq_false c1]
        walk_at "k"
        have hno := c1
        refine ⟨_, _, _, _, _, _, acc, rfl, e03, hf3, by omega, ?_⟩
        rw [take_snoc hr', List.filter_append, List.filter_cons_of_neg (by rw [hwb]; simp [hno]), List.filter_nil, List.append_nil]
        exact hac3
    · rintro σ H ⟨o5, o6, o7, o8, o9, o10, acc, rfl, eH, hfH, hal, hacc⟩
      rw [prd_len hRd, List.take_length] at hacc
      walk_at "k"
      exact q H f acc ((ex_del (e1.trans e2) nf).trans eH) nf hfH hacc
end
end Tk
namespace Tk
open PySem PySem.Spec PyProof.Rows L2
open Evl (Ex ex_l ex_t ex_rd sq_of st_of fresh_back)
local macro_rules | `(tactic| walk_at "g") => `(tactic| (repeat (first
  | (with_reducible refine g_seq ?_) | (with_reducible refine g_asg ?_) | (with_reducible refine g_name ?_) | (with_reducible refine g_sub ?_)
  | ((with_reducible refine' g_var ?e ?_); (case e => exact rfl)) | (with_reducible refine g_c ?_) | (with_reducible refine g_op ?_) | (with_reducible refine g_un ?_) | (with_reducible refine g_U ?_)
  | (with_reducible refine g_I0 ?_) | (with_reducible refine g_eqI ?_) | (with_reducible refine g_neI ?_) | (with_reducible refine g_eqS ?_) | (with_reducible refine g_neS ?_) | (with_reducible refine g_eqB ?_) | (with_reducible refine g_neB ?_)
  | (with_reducible refine g_test ?_) | (with_reducible refine g_tB ?_) | (with_reducible refine g_bl ?_) | (with_reducible refine g_and ?_) | (with_reducible refine g_or ?_) | (with_reducible refine g_not ?_)
  | (with_reducible refine g_andV ?_) | (with_reducible refine g_orV ?_) | (with_reducible refine g_notV ?_) | (with_reducible refine g_ifE ?_) | (with_reducible refine g_ifS ?_)
  | (with_reducible refine g_next ?_) | (with_reducible refine g_ret ?_) | (with_reducible refine g_drop ?_) | (with_reducible refine g_nil ?_) | (with_reducible refine g_cons ?_) | (with_reducible refine g_call ?_)
  | (with_reducible refine g_cb ?_) | (with_reducible refine g_bm ?_) | (with_reducible refine g_lst ?_) | (with_reducible refine g_tup ?_) | (with_reducible refine iteT ?_) | (with_reducible refine iteF ?_) | (with_reducible refine g_nt ?_) | (with_reducible refine g_nf ?_)
  | (with_reducible refine g_par ?_) | (with_reducible refine g_par3 ?_) | (with_reducible refine g_two ?_) | (with_reducible refine g_three ?_) | (with_reducible refine g_ckw ?_) | (with_reducible refine g_yes ?_) | (with_reducible refine g_chain ?_) | (with_reducible refine g_gnil ?_) | (with_reducible refine g_gcons ?_) | (with_reducible refine g_fld ?_) | (with_reducible refine g_sfld ?_) | (with_reducible refine g_isN ?_) | (with_reducible refine g_nint ?_) | (with_reducible refine g_nintB ?_) | (with_reducible refine g_max ?_) | (with_reducible refine g_min ?_))))
local macro_rules | `(tactic| walk_at "k") => `(tactic| (repeat (first
  | (with_reducible refine g_seq ?_) | (with_reducible refine g_asg ?_) | (with_reducible refine g_name ?_) | (with_reducible refine g_sub ?_)
  | ((with_reducible refine' g_var ?e ?_); (case e => exact rfl)) | (with_reducible refine g_c ?_) | (with_reducible refine g_op ?_) | (with_reducible refine g_un ?_) | (with_reducible refine g_U ?_)
  | (with_reducible refine g_I0 ?_) | (with_reducible refine g_eqI ?_) | (with_reducible refine g_neI ?_) | (with_reducible refine g_eqS ?_) | (with_reducible refine g_neS ?_) | (with_reducible refine g_eqB ?_) | (with_reducible refine g_neB ?_)
  | (with_reducible refine g_test ?_) | (with_reducible refine g_tB ?_) | (with_reducible refine g_bl ?_) | (with_reducible refine g_and ?_) | (with_reducible refine g_or ?_) | (with_reducible refine g_not ?_)
  | (with_reducible refine g_andV ?_) | (with_reducible refine g_orV ?_) | (with_reducible refine g_notV ?_) | (with_reducible refine g_ifE ?_)
  | (with_reducible refine g_next ?_) | (with_reducible refine g_ret ?_) | (with_reducible refine g_drop ?_) | (with_reducible refine g_nil ?_) | (with_reducible refine g_cons ?_) | (with_reducible refine g_call ?_)
  | (with_reducible refine g_cb ?_) | (with_reducible refine g_bm ?_) | (with_reducible refine g_lst ?_) | (with_reducible refine g_tup ?_) | (with_reducible refine iteT ?_) | (with_reducible refine iteF ?_) | (with_reducible refine g_nt ?_) | (with_reducible refine g_nf ?_)
  | (with_reducible refine g_par ?_) | (with_reducible refine g_par3 ?_) | (with_reducible refine g_two ?_) | (with_reducible refine g_three ?_) | (with_reducible refine g_ckw ?_) | (with_reducible refine g_yes ?_) | (with_reducible refine g_chain ?_) | (with_reducible refine g_gnil ?_) | (with_reducible refine g_gcons ?_) | (with_reducible refine g_fld ?_) | (with_reducible refine g_sfld ?_) | (with_reducible refine g_isN ?_) | (with_reducible refine g_nint ?_) | (with_reducible refine g_nintB ?_) | (with_reducible refine g_max ?_) | (with_reducible refine g_min ?_))))
theorem isiK (K : PySem.W.Frag) {X : Cx} (h : X.K = K := by rfl) : CallR X (.builtin "isinstance") (rIsi K) := by
  subst h
  exact call_isi
abbrev isPos (v : V) : Bool := match v with
  | .int i => decide (0 < i)
  | _ => false
def NoOptB (K : PySem.W.Frag) (H : Hp) (v : V) : Prop := NSeq H v ∨ ∃ a xs, v = .ref a ∧ Seq K H a xs ∧ (∀ x ∈ xs, Plain K H x) ∧ ¬ (xs.length ≤ 2 ∧ ∀ x ∈ xs, isPos x = true)
def spAsOpt (K : PySem.W.Frag) : Sp := fun vs H Q _ => ∃ (l : Addr) (xs : List V) (R : List Rl) (h : Int) (v : V), vs = [.ref l, .int h, v] ∧ SqL K H l xs ∧ Paired (RuleT K H) xs R ∧ Goods R ∧ Srt R ∧
  ((NoOptB K H v ∧ ∀ H', Ex H H' → Q .non H') ∨ ∃ a o, v = .ref a ∧ SqL K H a (o.map V.int) ∧ o.length ≤ 2 ∧ (∀ x ∈ o, 1 ≤ x) ∧
    (Legal R h o → ∀ H' p (o' : List Int), Ex H H' → H p = none → H' p = some (.lst (o'.map V.int)) → o'.Perm o → Q (.ref p) H') ∧ (¬ Legal R h o → ∀ H', Ex H H' → Q .non H'))
theorem Seq.seq {K : PySem.W.Frag} {H : Hp} {a : Addr} {xs : List V} (h : SqL K H a xs) : Seq K H a xs := .inl h
theorem dp_ways {K : PySem.W.Frag} {H : Hp} {n : Int} : ∀ {ys : List V} {R : List Rl}, Paired (WayT K H n) ys R → DpAll K H ys (R.map fun r => .tuple [rd r, .int n])
  | _, _, .nil => .nil
  | _, _, .cons a t => by
    obtain ⟨b, u, rfl, h2, h3⟩ := a
    exact .cons (.tup h2 (.cons (dp_rule h3) (.cons (.int _) .nil))) (dp_ways t)
theorem ways_lay {n : Int} : ∀ {R : List Rl}, (∀ r ∈ R, Good r) → PyData.canLayAll0 (R.map fun r => PyData.tuple [rd r, .int n]) = true
  | [], _ => by simp [PyData.canLayAll0]
  | r :: R, g => by
    have h1 := rd_lay (g r List.mem_cons_self)
    have h2 := ways_lay (n := n) (R := R) fun s hs => g s (List.mem_cons_of_mem _ hs)
    simp [PyData.canLayAll0, PyData.canLay0, h1, h2]
theorem ways_depth {n : Int} : ∀ R : List Rl, PyData.depthAll (R.map fun r => PyData.tuple [rd r, .int n]) ≤ 2
  | [] => by simp [PyData.depthAll]
  | r :: R => by
    have h1 := ways_depth (n := n) R
    have h2 := rd_depth r
    simp only [List.map_cons, PyData.depthAll, PyData.depth]
    omega
theorem ways_shaped {n : Int} {R : List Rl} (g : ∀ r ∈ R, Good r) : SeqAt.shaped (.list (R.map fun r => PyData.tuple [rd r, .int n])) = true := by
  have h := ways_depth (n := n) R
  unfold SeqAt.shaped
  rw [Bool.and_eq_true]
  refine ⟨by simp only [PyData.canLay0]; exact ways_lay g, decide_eq_true ?_⟩
  simp only [PyData.depth]
  omega
section
variable {P : Program} {w : World} {K : PySem.W.Frag} {mg : Str → Option Value} {base : Heap}
theorem sc_w_b_as_option : FnScope ["_law_raw", "_law_heap", "_law_thing", "_law_one"] ["_law_raw", "_law_heap", "_law_thing"] (defScope st_w_b_as_option) := ⟨rfl, rfl, rfl, by decide +kernel, rfl, by decide +kernel, by decide +kernel⟩
theorem ok_w_b_as_option (T : Txt K mg) : Kept P w K mg base CX0 5 "_law_b_as_option" ["_law_raw", "_law_heap", "_law_thing"] (spAsOpt K) := by
  have G_w_b_ways := ok_w_b_ways (P := P) (w := w) (base := base) T
  refine kept0 T.d_w_b_as_option sc_w_b_as_option (fun vs H Q E h => ?_) (fun cdv A outer s H0 vs Q E hr h => ?_)
  · obtain ⟨l, xs, R, h, v, rfl, _⟩ := h
    rfl
  · obtain ⟨l, rs, R, h, v, rfl, hl, hR, g, hso, q⟩ := h
    refine ⟨_, (pss_cons (ps_if (PW.pt (pw_or (pt_not (pt_val (pe_callB call_isiT (by rfl) T.f_isinstance (by decide +kernel) (pa_cons (pv 2) (pa_cons (pe_tup (pa_cons (pe_bltn (v := .ty "list") (by rfl) T.f_list (by decide +kernel) rfl) (pa_cons (pe_bltn (v := .ty "tuple") (by rfl) T.f_tuple (by decide +kernel) rfl) pa_nil))) pa_nil))))) (pw_or1 (pt_cmpR op_gt (pe_callB (cLenK K) (by rfl) T.f_len (by decide +kernel) (pa_cons (pv 2) pa_nil)) pe_int (nomark _))))) (pss_one (ps_ret pe_non)) pss_nil)
      (pss_cons (ps_if (pt_not (pt_val (pe_callB (cr_all rfl) (by rfl) T.f_all (by decide +kernel) (pa_cons (pe_lc rfl (own := [("_law_one", 3)]) sc_w_b_as_option.nd (pi_q (pv 2)) (blkOk_by (own := [("_law_one", 3)]) (N := ["_law_raw", "_law_heap", "_law_thing", "_law_one"]) (sc := defScope st_w_b_as_option) (by decide +kernel)) (fun _ _ _ _ _ => (pg_name (i := 3) sc_w_b_as_option.nd rfl (Or.inl rfl))) (fun _ _ _ _ _ => pts_nil) (fun _ _ _ _ _ => (pe_and (pe_callB (isiK K) (by rfl) T.f_isinstance (by decide +kernel) (pa_cons (pv 3) (pa_cons (pe_bltn (v := .ty "int") (by rfl) T.f_int (by decide +kernel) rfl) pa_nil))) (pe_and (pe_not (pe_callB (isiK K) (by rfl) T.f_isinstance (by decide +kernel) (pa_cons (pv 3) (pa_cons (pe_bltn (v := .ty "bool") (by rfl) T.f_bool (by decide +kernel) rfl) pa_nil)))) (pe_one (pe_cmpR op_gt (pv 3) pe_int (nomark _))))))) pa_nil)))) (pss_one (ps_ret pe_non)) pss_nil)
      (pss_one (ps_ret (pe_ifExp (pt_cmpR (op_neD hr.units) (pe_c G_w_b_ways (hr.mono (by decide)) pass0 (pa_cons (pv 0) (pa_cons (pv 1) (pa_cons (pv 2) pa_nil)))) (pe_lst pa_nil) (nomark _)) (pe_callB cr_sortQ (by rfl) T.f_sorted (by decide +kernel) (pa_cons (pv 2) pa_nil)) pe_non))))), ?_⟩
    walk_at "k"
    with_reducible refine g_ifS ?_
    walk_at "k"
    refine g_newT (sz (of_decide_eq_true rfl)) fun tp H1 ntp e1 htp b1 => ?_
    walk_at "k"
    rcases q with ⟨hno | ⟨a, xs, rfl, hs, hpl, hbad⟩, q⟩ | ⟨a, o, rfl, hs, hlen, hin, q1, q2⟩
    · refine g_isiNo htp (hno.ex e1) ?_
      walk_at "k"
      exact q H1 e1
    · replace hs := hs.ex e1
      replace hpl := fun x hx => (hpl x hx).ex e1
      refine g_isiSeq htp hs ?_
      walk_at "k"
      refine g_len hs ?_
      walk_at "k"
      by_cases hlen : xs.length ≤ 2
      · rw [decide_eq_false (by omega)]
        walk_at "k"
        with_reducible refine g_ifS ?_
        walk_at "k"
        refine g_lcQ (a := a) (xs := xs) (G := H1) (fun R hR => ?_) hs (fun _ _ z => z) fun L hL => ⟨fun j ac H' => Ex H1 H' ∧ ac = (xs.take j).map fun x => V.bl (isPos x), fun H4 b4 e4 _ => ⟨e4, by rw [List.take_zero]; rfl⟩, fun _ _ _ z => z.1, ?_, ?_⟩
        · walk_at "k"
          exact hR
        · rintro j ac y H4 hy hl2 hL4 ⟨e4, rfl⟩
          have more : LcT L (fun j ac H' => Ex H1 H' ∧ ac = (xs.take j).map fun x => V.bl (isPos x)) (j + 1) (V.bl (isPos y)) H4 := by
            refine lcT_of hl2 (by have := (List.getElem?_eq_some_iff.mp hy).1; omega) hL4 fun H5 b5 h5 => ⟨ex_but e4 hL b5, ?_⟩
            rw [take_snoc hy, List.map_append]
            rfl
          refine g_lcs ?_
          walk_at "k"
          refine ⟨rfl, ?_⟩
          walk_at "k"
          rcases (hpl y (List.mem_of_getElem? hy)).ex e4 with (rfl | ⟨b, rfl⟩ | ⟨i, rfl⟩ | ⟨x, rfl⟩ | ⟨a2, kvs, rfl, h2⟩) | ⟨a2, xs2, rfl, hs2⟩
          · refine g_isi (.base .non) (show kitB _ _ = some false by decide +kernel) ?_
            walk_at "k"
            exact more
          · refine g_isi (.base (.bl b)) (show kitB _ _ = some true by decide +kernel) ?_
            walk_at "k"
            refine g_isi (.base (.bl b)) (show kitB _ _ = some true by decide +kernel) ?_
            walk_at "k"
            exact more
          · refine g_isi (.base (.int i)) (show kitB _ _ = some true by decide +kernel) ?_
            walk_at "k"
            refine g_isi (.base (.int i)) (show kitB _ _ = some false by decide +kernel) ?_
            walk_at "k"
            exact more
          · refine g_isi (.base (.str x)) (show kitB _ _ = some false by decide +kernel) ?_
            walk_at "k"
            exact more
          · refine g_isi (.base (.dK h2)) (show kitB _ _ = some false by decide +kernel) ?_
            walk_at "k"
            exact more
          · rcases hs2 with hs2 | hs2
            · refine g_isi (ty_l hs2) (show kitB _ _ = some false by decide +kernel) ?_
              walk_at "k"
              exact more
            · refine g_isi (ty_t hs2) (show kitB _ _ = some false by decide +kernel) ?_
              walk_at "k"
              exact more
        rintro ac H2 hal hL2 ⟨e2, rfl⟩
        rw [List.take_length] at hL2
        walk_at "k"
        refine g_all (bs := xs.map isPos) (sq_of (by rw [List.map_map]; exact hL2)) ?_
        walk_at "k"
        have hf : (xs.map isPos).all id = false := by
          cases z : (xs.map isPos).all id with
          | false => rfl
          | true => exact absurd ⟨hlen, fun x hx => List.all_eq_true.mp z _ (List.mem_map_of_mem hx)⟩ hbad
        rw [hf]
        walk_at "k"
        exact q H2 (e1.trans e2)
      · rw [decide_eq_true (by omega)]
        walk_at "k"
        exact q H1 e1
    · have hsl := hs
      replace hs : Seq K H1 a (o.map V.int) := .inl (ex_l e1 hs)
      refine g_isiSeq htp hs ?_
      walk_at "k"
      refine g_len hs ?_
      rw [List.length_map]
      walk_at "k"
      rw [decide_eq_false (by omega)]
      walk_at "k"
      with_reducible refine g_ifS ?_
      walk_at "k"
      obtain ⟨xs, hxs⟩ : ∃ xs, xs = o.map V.int := ⟨_, rfl⟩
      rw [← hxs] at hs
      have hxl : xs.length = o.length := by rw [hxs, List.length_map]
      have hpl : ∀ x ∈ xs, Plain K H1 x := fun x hx => by
        rw [hxs] at hx
        obtain ⟨i, _, rfl⟩ := List.mem_map.mp hx
        exact .inl (.inr (.inr (.inl ⟨i, rfl⟩)))
      refine g_lcQ (a := a) (xs := xs) (G := H1) (fun R hR => ?_) hs (fun _ _ z => z) fun L hL => ⟨fun j ac H' => Ex H1 H' ∧ ac = (xs.take j).map fun x => V.bl (isPos x), fun H4 b4 e4 _ => ⟨e4, by rw [List.take_zero]; rfl⟩, fun _ _ _ z => z.1, ?_, ?_⟩
      · walk_at "k"
        exact hR
      · rintro j ac y H4 hy hl2 hL4 ⟨e4, rfl⟩
        have more : LcT L (fun j ac H' => Ex H1 H' ∧ ac = (xs.take j).map fun x => V.bl (isPos x)) (j + 1) (V.bl (isPos y)) H4 := by
          refine lcT_of hl2 (by have := (List.getElem?_eq_some_iff.mp hy).1; omega) hL4 fun H5 b5 h5 => ⟨ex_but e4 hL b5, ?_⟩
          rw [take_snoc hy, List.map_append]
          rfl
        refine g_lcs ?_
        walk_at "k"
        refine ⟨rfl, ?_⟩
        walk_at "k"
        rcases (hpl y (List.mem_of_getElem? hy)).ex e4 with (rfl | ⟨b, rfl⟩ | ⟨i, rfl⟩ | ⟨x, rfl⟩ | ⟨a2, kvs, rfl, h2⟩) | ⟨a2, xs2, rfl, hs2⟩
        · refine g_isi (.base .non) (show kitB _ _ = some false by decide +kernel) ?_
          walk_at "k"
          exact more
        · refine g_isi (.base (.bl b)) (show kitB _ _ = some true by decide +kernel) ?_
          walk_at "k"
          refine g_isi (.base (.bl b)) (show kitB _ _ = some true by decide +kernel) ?_
          walk_at "k"
          exact more
        · refine g_isi (.base (.int i)) (show kitB _ _ = some true by decide +kernel) ?_
          walk_at "k"
          refine g_isi (.base (.int i)) (show kitB _ _ = some false by decide +kernel) ?_
          walk_at "k"
          exact more
        · refine g_isi (.base (.str x)) (show kitB _ _ = some false by decide +kernel) ?_
          walk_at "k"
          exact more
        · refine g_isi (.base (.dK h2)) (show kitB _ _ = some false by decide +kernel) ?_
          walk_at "k"
          exact more
        · rcases hs2 with hs2 | hs2
          · refine g_isi (ty_l hs2) (show kitB _ _ = some false by decide +kernel) ?_
            walk_at "k"
            exact more
          · refine g_isi (ty_t hs2) (show kitB _ _ = some false by decide +kernel) ?_
            walk_at "k"
            exact more
      rintro ac H2 hal hL2 ⟨e2, rfl⟩
      rw [List.take_length] at hL2
      walk_at "k"
      refine g_all (bs := xs.map isPos) (sq_of (by rw [List.map_map]; exact hL2)) ?_
      walk_at "k"
      have hf : (xs.map isPos).all id = true := by
        rw [hxs, List.map_map]
        refine List.all_eq_true.mpr fun b hb => ?_
        obtain ⟨i, hi, rfl⟩ := List.mem_map.mp hb
        have := hin i hi
        exact decide_eq_true (show 0 < i by omega)
      rw [hf]
      walk_at "k"
      have e02 := e1.trans e2
      refine ⟨l, a, rs, R, h, o, rfl, ex_l e02 hl, prd_mono (fun _ _ z => z.ex e02) hR, g, hso, ex_l e02 hsl, hlen, hin, fun H3 p ys e3 np hp hys => ?_⟩
      walk_at "k"
      refine g_new (sz (of_decide_eq_true rfl)) fun m H4 nm e4 hm b4 => ?_
      have e04 := (e02.trans e3).trans e4
      have hys4 := prd_mono (fun _ _ z => WayT.ex z e4) hys
      have gw : ∀ r ∈ ways R h o, Good r := fun r hr => g.good r (List.mem_filter.mp hr).1
      by_cases hL : Legal R h o
      · refine g_neNil (c := true) (.lst (sq_of (e4 _ _ hp)) (dp_ways hys4)) (ways_shaped gw) (sq_of hm) ?_ ?_
        · have := legal_ways.mp hL
          cases hw : ways R h o with
          | nil => exact absurd hw this
          | cons => rfl
        walk_at "k"
        refine ⟨a, o, rfl, .inl (ex_l e04 hsl), fun ns' p' hp' hso' np' => ?_⟩
        exact q1 hL _ p' ns' (e04.trans (Evl.Ex.new np')) (none_ex e04 np') upd_same hp'
      · refine g_neNil (c := false) (.lst (sq_of (e4 _ _ hp)) (dp_ways hys4)) (ways_shaped gw) (sq_of hm) ?_ ?_
        · have : ways R h o = [] := Classical.byContradiction fun z => hL (legal_ways.mpr z)
          rw [this]
          rfl
        walk_at "k"
        exact q2 hL H4 e04
end
end Tk
namespace Tk
open PySem PySem.Spec PyProof.Rows L2
open Evl (Ex ex_l ex_t ex_rd sq_of st_of fresh_back)
local macro_rules | `(tactic| walk_at "g") => `(tactic| (repeat (first
  | (with_reducible refine g_seq ?_) | (with_reducible refine g_asg ?_) | (with_reducible refine g_name ?_) | (with_reducible refine g_sub ?_)
  | ((with_reducible refine' g_var ?e ?_); (case e => exact rfl)) | (with_reducible refine g_c ?_) | (with_reducible refine g_op ?_) | (with_reducible refine g_un ?_) | (with_reducible refine g_U ?_)
  | (with_reducible refine g_I0 ?_) | (with_reducible refine g_eqI ?_) | (with_reducible refine g_neI ?_) | (with_reducible refine g_eqS ?_) | (with_reducible refine g_neS ?_) | (with_reducible refine g_eqB ?_) | (with_reducible refine g_neB ?_)
  | (with_reducible refine g_test ?_) | (with_reducible refine g_tB ?_) | (with_reducible refine g_bl ?_) | (with_reducible refine g_and ?_) | (with_reducible refine g_or ?_) | (with_reducible refine g_not ?_)
  | (with_reducible refine g_andV ?_) | (with_reducible refine g_orV ?_) | (with_reducible refine g_notV ?_) | (with_reducible refine g_ifE ?_) | (with_reducible refine g_ifS ?_)
  | (with_reducible refine g_next ?_) | (with_reducible refine g_ret ?_) | (with_reducible refine g_drop ?_) | (with_reducible refine g_nil ?_) | (with_reducible refine g_cons ?_) | (with_reducible refine g_call ?_)
  | (with_reducible refine g_cb ?_) | (with_reducible refine g_bm ?_) | (with_reducible refine g_lst ?_) | (with_reducible refine g_tup ?_) | (with_reducible refine iteT ?_) | (with_reducible refine iteF ?_) | (with_reducible refine g_nt ?_) | (with_reducible refine g_nf ?_)
  | (with_reducible refine g_par ?_) | (with_reducible refine g_par3 ?_) | (with_reducible refine g_two ?_) | (with_reducible refine g_three ?_) | (with_reducible refine g_ckw ?_) | (with_reducible refine g_yes ?_) | (with_reducible refine g_chain ?_) | (with_reducible refine g_gnil ?_) | (with_reducible refine g_gcons ?_) | (with_reducible refine g_fld ?_) | (with_reducible refine g_sfld ?_) | (with_reducible refine g_isN ?_) | (with_reducible refine g_nint ?_) | (with_reducible refine g_nintB ?_) | (with_reducible refine g_max ?_) | (with_reducible refine g_min ?_))))
local macro_rules | `(tactic| walk_at "k") => `(tactic| (repeat (first
  | (with_reducible refine g_seq ?_) | (with_reducible refine g_asg ?_) | (with_reducible refine g_name ?_) | (with_reducible refine g_sub ?_)
  | ((with_reducible refine' g_var ?e ?_); (case e => exact rfl)) | (with_reducible refine g_c ?_) | (with_reducible refine g_op ?_) | (with_reducible refine g_un ?_) | (with_reducible refine g_U ?_)
  | (with_reducible refine g_I0 ?_) | (with_reducible refine g_eqI ?_) | (with_reducible refine g_neI ?_) | (with_reducible refine g_eqS ?_) | (with_reducible refine g_neS ?_) | (with_reducible refine g_eqB ?_) | (with_reducible refine g_neB ?_)
  | (with_reducible refine g_test ?_) | (with_reducible refine g_tB ?_) | (with_reducible refine g_bl ?_) | (with_reducible refine g_and ?_) | (with_reducible refine g_or ?_) | (with_reducible refine g_not ?_)
  | (with_reducible refine g_andV ?_) | (with_reducible refine g_orV ?_) | (with_reducible refine g_notV ?_) | (with_reducible refine g_ifE ?_)
  | (with_reducible refine g_next ?_) | (with_reducible refine g_ret ?_) | (with_reducible refine g_drop ?_) | (with_reducible refine g_nil ?_) | (with_reducible refine g_cons ?_) | (with_reducible refine g_call ?_)
  | (with_reducible refine g_cb ?_) | (with_reducible refine g_bm ?_) | (with_reducible refine g_lst ?_) | (with_reducible refine g_tup ?_) | (with_reducible refine iteT ?_) | (with_reducible refine iteF ?_) | (with_reducible refine g_nt ?_) | (with_reducible refine g_nf ?_)
  | (with_reducible refine g_par ?_) | (with_reducible refine g_par3 ?_) | (with_reducible refine g_two ?_) | (with_reducible refine g_three ?_) | (with_reducible refine g_ckw ?_) | (with_reducible refine g_yes ?_) | (with_reducible refine g_chain ?_) | (with_reducible refine g_gnil ?_) | (with_reducible refine g_gcons ?_) | (with_reducible refine g_fld ?_) | (with_reducible refine g_sfld ?_) | (with_reducible refine g_isN ?_) | (with_reducible refine g_nint ?_) | (with_reducible refine g_nintB ?_) | (with_reducible refine g_max ?_) | (with_reducible refine g_min ?_))))
/-- the same data at x and y, d levels -/
def Atm (x : V) : Prop := x = .non ∨ (∃ b, x = .bl b) ∨ (∃ i, x = .int i) ∨ ∃ s, x = .str s
def Sm (K : PySem.W.Frag) (H : Hp) : Nat → V → V → Prop
  | 0, x, y => x = y ∧ Atm x
  | d + 1, x, y => (x = y ∧ Atm x) ∨ (∃ a b xs ys, x = .ref a ∧ y = .ref b ∧ SqL K H a xs ∧ SqL K H b ys ∧ xs.length ≤ 1000 ∧ Paired (Sm K H d) xs ys) ∨
    (∃ a b xs ys, x = .ref a ∧ y = .ref b ∧ SqT K H a xs ∧ SqT K H b ys ∧ xs.length ≤ 1000 ∧ Paired (Sm K H d) xs ys) ∨ (∃ a b, x = .ref a ∧ y = .ref b ∧ H a = some (.dK []) ∧ H b = some (.dK []) ∧ 1 ≤ d)
theorem Sm.ex {K : PySem.W.Frag} {H H' : Hp} (e : Ex H H') : ∀ {d : Nat} {x y : V}, Sm K H d x y → Sm K H' d x y
  | 0, _, _, h => h
  | d + 1, _, _, h => by
    rcases h with h | ⟨a, b, xs, ys, h1, h2, h3, h4, h5, h6⟩ | ⟨a, b, xs, ys, h1, h2, h3, h4, h5, h6⟩ | ⟨a, b, h1, h2, h3, h4, h5⟩
    · exact .inl h
    · exact .inr (.inl ⟨a, b, xs, ys, h1, h2, ex_l e h3, ex_l e h4, h5, prd_mono (fun _ _ z => Sm.ex e z) h6⟩)
    · exact .inr (.inr (.inl ⟨a, b, xs, ys, h1, h2, ex_t e h3, ex_t e h4, h5, prd_mono (fun _ _ z => Sm.ex e z) h6⟩))
    · exact .inr (.inr (.inr ⟨a, b, h1, h2, e _ _ h3, e _ _ h4, h5⟩))
theorem Sm.up {K : PySem.W.Frag} {H : Hp} : ∀ {d : Nat} {x y : V}, Sm K H d x y → Sm K H (d + 1) x y
  | 0, _, _, h => .inl h
  | d + 1, _, _, h => by
    rcases h with h | ⟨a, b, xs, ys, h1, h2, h3, h4, h5, h6⟩ | ⟨a, b, xs, ys, h1, h2, h3, h4, h5, h6⟩ | ⟨a, b, h1, h2, h3, h4, h5⟩
    · exact .inl h
    · exact .inr (.inl ⟨a, b, xs, ys, h1, h2, h3, h4, h5, prd_mono (fun _ _ z => Sm.up z) h6⟩)
    · exact .inr (.inr (.inl ⟨a, b, xs, ys, h1, h2, h3, h4, h5, prd_mono (fun _ _ z => Sm.up z) h6⟩))
    · exact .inr (.inr (.inr ⟨a, b, h1, h2, h3, h4, by omega⟩))
def spSame (K : PySem.W.Frag) (d : Nat) : Sp := fun vs H Q _ => ∃ x y, vs = [x, y] ∧ Sm K H d x y ∧ ∀ H', Ex H H' → Q (.bl true) H'
def spSameP (K : PySem.W.Frag) : Nat → Sp
  | 0 => fun _ _ _ _ => False
  | d + 1 => spSame K d
theorem walk_zipT {K : PySem.W.Frag} {a b : Addr} {xs ys : List V} (hn : xs.length = ys.length) : Walk (RZ.ItzT K a b) xs.length (fun H => SqT K H a xs ∧ SqT K H b ys) (YPair (fun i => xs[i]?) (fun i => ys[i]?)) := by
  refine ⟨fun i _ hi q => ⟨xs, ys, xs[i], ys[i], q.1, q.2, by simp [hi], by simp⟩, fun _ q => ⟨xs, ys, q.1, q.2, .inl (Nat.le_refl _)⟩, fun i H v H' _ q y => ?_⟩
  obtain ⟨T, x, z, h1, h2, h3, h4, h5⟩ := y
  exact ⟨T, x, z, h1, h2, h3, h4 xs q.1, h5 ys q.2⟩
theorem iZipK (K : PySem.W.Frag) {ta : TA} {g : TG} {tt : TT} {te : TE} {vs : List Nat} {σ : L2.St} {H G : Hp} {Q : VK} {a b : Addr} {xs ys : List V} (h : ∀ R : List V → Hp → Prop, R [.ref a, .ref b] H → ta σ H R) (hl : xs.length = ys.length)
    (hs : (SqL K G a xs ∧ SqL K G b ys) ∨ (SqT K G a xs ∧ SqT K G b ys)) (e : Ex G H)
    (k : ∀ L, H L = none → ∃ Pv : Nat → List V → Hp → Prop, (∀ H', But L H H' → Ex H H' → H' L = some (.lst []) → Pv 0 [] H') ∧ (∀ i acc H, Pv i acc H → Ex G H) ∧
      (∀ i acc x y H T H', xs[i]? = some x → ys[i]? = some y → acc.length ≤ i → H L = some (.lst acc) → Pv i acc H → H T = none → Ex H H' → H' T = some (.tup [x, y]) → But T H H' → LcS g tt te vs σ L Pv i (.ref T) H') ∧
      ∀ acc H, acc.length ≤ xs.length → H L = some (.lst acc) → Pv xs.length acc H → Q (.ref L) H) : tLc (RZ.iZipA K ta) g tt te vs σ H Q := by
  refine h _ ⟨a, b, xs, ys, rfl, ?_⟩
  rcases hs with hs | hs
  · refine .inl ⟨ex_l e hs.1, ex_l e hs.2, fun L hL => ?_⟩
    obtain ⟨Pv, p0, pG, ps, pd⟩ := k L hL
    refine lc_go (walk_zip (n := xs.length) (by omega)) Pv (fun H' b z => p0 H' b (fun q o hq => by rw [b q (ne_of_none hq hL)]; exact hq) z) (fun i acc H p => ⟨ex_l (pG i acc H p) hs.1, ex_l (pG i acc H p) hs.2⟩) (fun i acc x H H' hi hl hL p y => ?_) pd
    obtain ⟨T, u, v, rfl, hT, rfl, e1, e2⟩ := y
    exact ps i acc u v H T _ e1 e2 hl hL p hT (Evl.Ex.new hT) upd_same fun _ hb => upd_ne hb
  · refine .inr ⟨ex_t e hs.1, ex_t e hs.2, fun L hL => ?_⟩
    obtain ⟨Pv, p0, pG, ps, pd⟩ := k L hL
    refine lc_go (walk_zipT hl) Pv (fun H' b z => p0 H' b (fun q o hq => by rw [b q (ne_of_none hq hL)]; exact hq) z) (fun i acc H p => ⟨ex_t (pG i acc H p) hs.1, ex_t (pG i acc H p) hs.2⟩) (fun i acc x H H' hi hl hL p y => ?_) pd
    obtain ⟨T, u, v, rfl, hT, rfl, e1, e2⟩ := y
    exact ps i acc u v H T _ e1 e2 hl hL p hT (Evl.Ex.new hT) upd_same fun _ hb => upd_ne hb
theorem g_items {te : TE} {σ : L2.St} {H : Hp} {Q : VK} (h : te σ H fun x H1 => LiI.rItemsL x H1 Q) : LiI.tListItems te σ H Q := h
theorem g_items0 {a : Addr} {H : Hp} {Q : VK} (ha : H a = some (.dK [])) (h : ∀ p H', H p = none → Ex H H' → H' p = some (.lst []) → Q (.ref p) H') : LiI.rItemsL (.ref a) H Q :=
  ⟨a, [], rfl, ha, fun H' p ts k np _ _ hp hts => by
    cases hts
    exact h p H' np k hp⟩
theorem kl4 {K : PySem.W.Frag} {T : String} (h : T = "NoneType" ∨ T = "str") : PySem.W.kitAny K (.type T) [.type "int", .type "list", .type "tuple", .type "dict"] = some false := by
  have k : ∀ S ∈ ["int", "list", "tuple", "dict"], kitB T S = some false := by
    rcases h with rfl | rfl <;> decide +kernel
  exact kitAny_cons (b := false) (kit_ty (k "int" (by simp))) (fun _ => kitAny_cons (b := false) (kit_ty (k "list" (by simp))) (fun _ => kitAny_cons (b := false) (kit_ty (k "tuple" (by simp))) (fun _ => kitAny_cons (b := false) (kit_ty (k "dict" (by simp))) (fun _ => kitAny_nil) (by intro h; cases h)) (by intro h; cases h)) (by intro h; cases h)) (by intro h; cases h)
theorem g_isi4 {K : PySem.W.Frag} {H : Hp} {Q : VK} {v : V} {tp : Addr} {T : String} (ht : H tp = some (.tup [.ty "int", .ty "list", .ty "tuple", .ty "dict"])) (ty : TyX K H v (.type T)) (e : T = "NoneType" ∨ T = "str") (h : Q (.bl false) H) : rIsiT K [v, .ref tp] H Q :=
  ⟨v, tp, _, .type T, _, false, rfl, ht, .cons (.ty "int") (.cons (.ty "list") (.cons (.ty "tuple") (.cons (.ty "dict") .nil))), ty, kl4 e, h⟩
theorem g_eqN {H : Hp} {Q : VK} (h : Q (.bl true) H) : rEq .non .non H Q := ⟨rfl, h⟩
theorem rep_take {α : Type} {n i : Nat} {x : α} (h : i < n) : List.replicate (i + 1) x = List.replicate i x ++ [x] := by
  rw [List.replicate_succ']
section
variable {P : Program} {w : World} {K : PySem.W.Frag} {mg : Str → Option Value} {base : Heap}
theorem sc_w_same : FnScope ["_law_found", "_law_due", "_law_x", "_law_y"] ["_law_found", "_law_due"] (defScope st_w_same) := ⟨rfl, rfl, rfl, by decide +kernel, rfl, by decide +kernel, by decide +kernel⟩
theorem ok_w_same (T : Txt K mg) : ∀ d : Nat, Kept P w K mg base CX0 (1 + d) "_law_same" ["_law_found", "_law_due"] (spSame K d) := by
  intro d
  have G_w_same : Kept P w K mg base CX0 d "_law_same" ["_law_found", "_law_due"] (spSameP K d) := by
    cases d with
    | zero => exact keptF T.d_w_same
    | succ d =>
      have := ok_w_same T d
      exact this.mono (by omega)
  have e : 1 + d = d + 1 := by omega
  rw [e]
  refine kept0 T.d_w_same sc_w_same (fun vs H Q E h => ?_) (fun cdv A outer s H0 vs Q E hr h => ?_)
  · obtain ⟨x, y, rfl, _⟩ := h
    rfl
  · obtain ⟨x, y, rfl, hs, q⟩ := h
    refine ⟨_, (pss_cons (ps_if (pt_val (pe_callB call_isiT (by rfl) T.f_isinstance (by decide +kernel) (pa_cons (pv 1) (pa_cons (pe_tup (pa_cons (pe_bltn (v := .ty "list") (by rfl) T.f_list (by decide +kernel) rfl) (pa_cons (pe_bltn (v := .ty "tuple") (by rfl) T.f_tuple (by decide +kernel) rfl) pa_nil))) pa_nil)))) (pss_cons (ps_if (PW.pt (pw_or (pt_cmpR op_ne (pe_callB call_isi (by rfl) T.f_isinstance (by decide +kernel) (pa_cons (pv 0) (pa_cons (pe_bltn (v := .ty "list") (by rfl) T.f_list (by decide +kernel) rfl) pa_nil))) (pe_callB call_isi (by rfl) T.f_isinstance (by decide +kernel) (pa_cons (pv 1) (pa_cons (pe_bltn (v := .ty "list") (by rfl) T.f_list (by decide +kernel) rfl) pa_nil))) (nomark _)) (pw_or1 (pt_cmpR op_ne (pe_callB call_isi (by rfl) T.f_isinstance (by decide +kernel) (pa_cons (pv 0) (pa_cons (pe_bltn (v := .ty "tuple") (by rfl) T.f_tuple (by decide +kernel) rfl) pa_nil))) (pe_callB call_isi (by rfl) T.f_isinstance (by decide +kernel) (pa_cons (pv 1) (pa_cons (pe_bltn (v := .ty "tuple") (by rfl) T.f_tuple (by decide +kernel) rfl) pa_nil))) (nomark _))))) (pss_one (ps_ret pe_bl)) pss_nil)
      (pss_one (ps_ret (pe_and (pe_cmpR op_eq (pe_callB (cLenK K) (by rfl) T.f_len (by decide +kernel) (pa_cons (pv 0) pa_nil)) (pe_callB (cLenK K) (by rfl) T.f_len (by decide +kernel) (pa_cons (pv 1) pa_nil)) (nomark _)) (pe_one (pe_callB (cr_all rfl) (by rfl) T.f_all (by decide +kernel) (pa_cons (pe_lc rfl (own := [("_law_x", 2), ("_law_y", 3)]) sc_w_same.nd (RZ.pi_zipA (by rfl) T.f_zip (pa_cons (pv 0) (pa_cons (pv 1) pa_nil))) (blkOk_by (own := [("_law_x", 2), ("_law_y", 3)]) (N := ["_law_found", "_law_due", "_law_x", "_law_y"]) (sc := defScope st_w_same) (by decide +kernel)) (fun _ _ _ _ _ => (pg_tupK K (n := 2) rfl (pgs_cons (pg_name (i := 2) sc_w_same.nd rfl (Or.inl rfl)) (pgs_cons (pg_name (i := 3) sc_w_same.nd rfl (Or.inl rfl)) pgs_nil)))) (fun _ _ _ _ _ => pts_nil) (fun _ _ _ _ _ => (pe_c G_w_same (hr.mono (by omega)) pass0 (pa_cons (pv 2) (pa_cons (pv 3) pa_nil))))) pa_nil))))))) pss_nil)
      (pss_cons (ps_if (pt_val (pe_callB call_isi (by rfl) T.f_isinstance (by decide +kernel) (pa_cons (pv 1) (pa_cons (pe_bltn (v := .ty "dict") (by rfl) T.f_dict (by decide +kernel) rfl) pa_nil)))) (pss_one (ps_ret (pe_and (pe_callB call_isi (by rfl) T.f_isinstance (by decide +kernel) (pa_cons (pv 0) (pa_cons (pe_bltn (v := .ty "dict") (by rfl) T.f_dict (by decide +kernel) rfl) pa_nil))) (pe_one (pe_c G_w_same (hr.mono (by omega)) pass0 (pa_cons (LiI.pe_listItems rfl (pv 0) (by rfl) T.f_list (by decide +kernel)) (pa_cons (LiI.pe_listItems rfl (pv 1) (by rfl) T.f_list (by decide +kernel)) pa_nil))))))) pss_nil)
      (pss_cons (ps_if (pt_val (pe_callB call_isi (by rfl) T.f_isinstance (by decide +kernel) (pa_cons (pv 1) (pa_cons (pe_bltn (v := .ty "int") (by rfl) T.f_int (by decide +kernel) rfl) pa_nil)))) (pss_one (ps_ret (pe_and (pe_callB call_isi (by rfl) T.f_isinstance (by decide +kernel) (pa_cons (pv 0) (pa_cons (pe_bltn (v := .ty "int") (by rfl) T.f_int (by decide +kernel) rfl) pa_nil))) (pe_and (pe_cmpR op_eq (pe_callB call_isi (by rfl) T.f_isinstance (by decide +kernel) (pa_cons (pv 0) (pa_cons (pe_bltn (v := .ty "bool") (by rfl) T.f_bool (by decide +kernel) rfl) pa_nil))) (pe_callB call_isi (by rfl) T.f_isinstance (by decide +kernel) (pa_cons (pv 1) (pa_cons (pe_bltn (v := .ty "bool") (by rfl) T.f_bool (by decide +kernel) rfl) pa_nil))) (nomark _)) (pe_one (pe_cmpR op_eq (pv 0) (pv 1) (nomark _))))))) pss_nil)
      (pss_one (ps_ret (pe_and (pe_not (pe_callB call_isiT (by rfl) T.f_isinstance (by decide +kernel) (pa_cons (pv 0) (pa_cons (pe_tup (pa_cons (pe_bltn (v := .ty "int") (by rfl) T.f_int (by decide +kernel) rfl) (pa_cons (pe_bltn (v := .ty "list") (by rfl) T.f_list (by decide +kernel) rfl) (pa_cons (pe_bltn (v := .ty "tuple") (by rfl) T.f_tuple (by decide +kernel) rfl) (pa_cons (pe_bltn (v := .ty "dict") (by rfl) T.f_dict (by decide +kernel) rfl) pa_nil))))) pa_nil)))) (pe_one (pe_cmpR op_eq (pv 0) (pv 1) (nomark _))))))))), ?_⟩
    walk_at "k"
    with_reducible refine g_ifS ?_
    walk_at "k"
    refine g_newT (sz (of_decide_eq_true rfl)) fun tp H1 ntp e1 htp b1 => ?_
    walk_at "k"
    cases d with
    | zero =>
      obtain ⟨rfl, ha⟩ := hs
      rcases ha with rfl | ⟨b, rfl⟩ | ⟨i, rfl⟩ | ⟨z, rfl⟩
      · refine g_isiNo htp (.inl rfl) ?_
        walk_at "k"
        with_reducible refine g_ifS ?_
        walk_at "k"
        refine g_isi (.base .non) (show kitB _ _ = some false by decide +kernel) ?_
        walk_at "k"
        with_reducible refine g_ifS ?_
        walk_at "k"
        refine g_isi (.base .non) (show kitB _ _ = some false by decide +kernel) ?_
        walk_at "k"
        refine g_newT (sz (of_decide_eq_true rfl)) fun tq H2 ntq e2 htq b2 => ?_
        walk_at "k"
        refine g_isi4 htq (.base .non) (.inl rfl) ?_
        walk_at "k"
        refine g_eqN ?_
        exact q H2 (e1.trans e2)
      · refine g_isiNo htp (.inr (.inl ⟨b, rfl⟩)) ?_
        walk_at "k"
        with_reducible refine g_ifS ?_
        walk_at "k"
        refine g_isi (.base (.bl b)) (show kitB _ _ = some false by decide +kernel) ?_
        walk_at "k"
        with_reducible refine g_ifS ?_
        walk_at "k"
        refine g_isi (.base (.bl b)) (show kitB _ _ = some true by decide +kernel) ?_
        walk_at "k"
        refine g_isi (.base (.bl b)) (show kitB _ _ = some true by decide +kernel) ?_
        walk_at "k"
        refine g_isi (.base (.bl b)) (show kitB _ _ = some true by decide +kernel) ?_
        walk_at "k"
        refine g_isi (.base (.bl b)) (show kitB _ _ = some true by decide +kernel) ?_
        walk_at "k"
        rw [show decide (true = true) = true from rfl]
        walk_at "k"
        rw [show decide (b = b) = true by simp]
        exact q H1 e1
      · refine g_isiNo htp (.inr (.inr (.inl ⟨i, rfl⟩))) ?_
        walk_at "k"
        with_reducible refine g_ifS ?_
        walk_at "k"
        refine g_isi (.base (.int i)) (show kitB _ _ = some false by decide +kernel) ?_
        walk_at "k"
        with_reducible refine g_ifS ?_
        walk_at "k"
        refine g_isi (.base (.int i)) (show kitB _ _ = some true by decide +kernel) ?_
        walk_at "k"
        refine g_isi (.base (.int i)) (show kitB _ _ = some true by decide +kernel) ?_
        walk_at "k"
        refine g_isi (.base (.int i)) (show kitB _ _ = some false by decide +kernel) ?_
        walk_at "k"
        refine g_isi (.base (.int i)) (show kitB _ _ = some false by decide +kernel) ?_
        walk_at "k"
        rw [show decide (false = false) = true from rfl]
        walk_at "k"
        rw [show decide (i = i) = true by simp]
        exact q H1 e1
      · refine g_isiNo htp (.inr (.inr (.inr (.inl ⟨z, rfl⟩)))) ?_
        walk_at "k"
        with_reducible refine g_ifS ?_
        walk_at "k"
        refine g_isi (.base (.str z)) (show kitB _ _ = some false by decide +kernel) ?_
        walk_at "k"
        with_reducible refine g_ifS ?_
        walk_at "k"
        refine g_isi (.base (.str z)) (show kitB _ _ = some false by decide +kernel) ?_
        walk_at "k"
        refine g_newT (sz (of_decide_eq_true rfl)) fun tq H2 ntq e2 htq b2 => ?_
        walk_at "k"
        refine g_isi4 htq (.base (.str z)) (.inr rfl) ?_
        walk_at "k"
        rw [show decide (z = z) = true by simp]
        exact q H2 (e1.trans e2)
    | succ d =>
      rcases hs with ⟨rfl, rfl | ⟨b, rfl⟩ | ⟨i, rfl⟩ | ⟨z, rfl⟩⟩ | ⟨a, b, xs, ys, rfl, rfl, h3, h4, h5, h6⟩ | ⟨a, b, xs, ys, rfl, rfl, h3, h4, h5, h6⟩ | ⟨a, b, rfl, rfl, h3, h4, h5⟩
      · refine g_isiNo htp (.inl rfl) ?_
        walk_at "k"
        with_reducible refine g_ifS ?_
        walk_at "k"
        refine g_isi (.base .non) (show kitB _ _ = some false by decide +kernel) ?_
        walk_at "k"
        with_reducible refine g_ifS ?_
        walk_at "k"
        refine g_isi (.base .non) (show kitB _ _ = some false by decide +kernel) ?_
        walk_at "k"
        refine g_newT (sz (of_decide_eq_true rfl)) fun tq H2 ntq e2 htq b2 => ?_
        walk_at "k"
        refine g_isi4 htq (.base .non) (.inl rfl) ?_
        walk_at "k"
        refine g_eqN ?_
        exact q H2 (e1.trans e2)
      · refine g_isiNo htp (.inr (.inl ⟨b, rfl⟩)) ?_
        walk_at "k"
        with_reducible refine g_ifS ?_
        walk_at "k"
        refine g_isi (.base (.bl b)) (show kitB _ _ = some false by decide +kernel) ?_
        walk_at "k"
        with_reducible refine g_ifS ?_
        walk_at "k"
        refine g_isi (.base (.bl b)) (show kitB _ _ = some true by decide +kernel) ?_
        walk_at "k"
        refine g_isi (.base (.bl b)) (show kitB _ _ = some true by decide +kernel) ?_
        walk_at "k"
        refine g_isi (.base (.bl b)) (show kitB _ _ = some true by decide +kernel) ?_
        walk_at "k"
        refine g_isi (.base (.bl b)) (show kitB _ _ = some true by decide +kernel) ?_
        walk_at "k"
        rw [show decide (true = true) = true from rfl]
        walk_at "k"
        rw [show decide (b = b) = true by simp]
        exact q H1 e1
      · refine g_isiNo htp (.inr (.inr (.inl ⟨i, rfl⟩))) ?_
        walk_at "k"
        with_reducible refine g_ifS ?_
        walk_at "k"
        refine g_isi (.base (.int i)) (show kitB _ _ = some false by decide +kernel) ?_
        walk_at "k"
        with_reducible refine g_ifS ?_
        walk_at "k"
        refine g_isi (.base (.int i)) (show kitB _ _ = some true by decide +kernel) ?_
        walk_at "k"
        refine g_isi (.base (.int i)) (show kitB _ _ = some true by decide +kernel) ?_
        walk_at "k"
        refine g_isi (.base (.int i)) (show kitB _ _ = some false by decide +kernel) ?_
        walk_at "k"
        refine g_isi (.base (.int i)) (show kitB _ _ = some false by decide +kernel) ?_
        walk_at "k"
        rw [show decide (false = false) = true from rfl]
        walk_at "k"
        rw [show decide (i = i) = true by simp]
        exact q H1 e1
      · refine g_isiNo htp (.inr (.inr (.inr (.inl ⟨z, rfl⟩)))) ?_
        walk_at "k"
        with_reducible refine g_ifS ?_
        walk_at "k"
        refine g_isi (.base (.str z)) (show kitB _ _ = some false by decide +kernel) ?_
        walk_at "k"
        with_reducible refine g_ifS ?_
        walk_at "k"
        refine g_isi (.base (.str z)) (show kitB _ _ = some false by decide +kernel) ?_
        walk_at "k"
        refine g_newT (sz (of_decide_eq_true rfl)) fun tq H2 ntq e2 htq b2 => ?_
        walk_at "k"
        refine g_isi4 htq (.base (.str z)) (.inr rfl) ?_
        walk_at "k"
        rw [show decide (z = z) = true by simp]
        exact q H2 (e1.trans e2)
      · have hsa : Seq K H1 a xs := .inl (ex_l e1 h3)
        have hsb : Seq K H1 b ys := .inl (ex_l e1 h4)
        have hboth : (SqL K H1 a xs ∧ SqL K H1 b ys) ∨ (SqT K H1 a xs ∧ SqT K H1 b ys) := .inl ⟨ex_l e1 h3, ex_l e1 h4⟩
        refine g_isiSeq htp hsb ?_
        walk_at "k"
        with_reducible refine g_ifS ?_
        walk_at "k"
        refine g_isi (ty_l (ex_l e1 h3)) (show kitB _ _ = some true by decide +kernel) ?_
        walk_at "k"
        refine g_isi (ty_l (ex_l e1 h4)) (show kitB _ _ = some true by decide +kernel) ?_
        walk_at "k"
        rw [show (!decide (true = true)) = false from rfl]
        walk_at "k"
        refine g_isi (ty_l (ex_l e1 h3)) (show kitB _ _ = some false by decide +kernel) ?_
        walk_at "k"
        refine g_isi (ty_l (ex_l e1 h4)) (show kitB _ _ = some false by decide +kernel) ?_
        walk_at "k"
        rw [show (!decide (false = false)) = false from rfl]
        walk_at "k"
        refine g_len hsa ?_
        walk_at "k"
        refine g_len hsb ?_
        walk_at "k"
        have hlen := prd_len h6
        rw [show decide ((xs.length : Int) = (ys.length : Int)) = true by rw [hlen]; simp]
        walk_at "k"
        refine iZipK K (a := a) (b := b) (xs := xs) (ys := ys) (G := H1) (fun R hR => ?_) hlen hboth (fun _ _ z => z) fun L hL => ⟨fun j ac H' => Ex H1 H' ∧ ac = (List.replicate j true).map V.bl, fun H4 b4 e4 _ => ⟨e4, rfl⟩, fun _ _ _ z => z.1, ?_, ?_⟩
        · walk_at "k"
          exact hR
        · rintro j ac u v H4 T' H5 hu hv hal hL4 ⟨e4, rfl⟩ nT eT hT bT
          have hj := (List.getElem?_eq_some_iff.mp hu).1
          refine g_lcs ?_
          walk_at "k"
          refine g_gtup (st_of hT) rfl ?_
          walk_at "k"
          refine ⟨rfl, ?_⟩
          walk_at "k"
          have huv : Sm K H1 d u v := by
            obtain ⟨v', hv', hz⟩ := prd_get h6 hu
            rw [hv] at hv'
            cases hv'
            exact Sm.ex e1 hz
          refine ⟨u, v, rfl, Sm.ex (e4.trans eT) huv, fun H6 e6 => ?_⟩
          refine lcT_of hal (by omega) (e6 _ _ (eT _ _ hL4)) fun H7 b7 h7 => ⟨ex_but (e4.trans (eT.trans e6)) hL b7, ?_⟩
          rw [List.replicate_succ', List.map_append]
          rfl
        rintro ac H4 _ hL4 ⟨e4, rfl⟩
        walk_at "k"
        refine g_all (bs := List.replicate xs.length true) (sq_of hL4) ?_
        rw [show (List.replicate xs.length true).all id = true by rw [List.all_eq_true]; intro z hz; exact List.eq_of_mem_replicate hz]
        exact q H4 (e1.trans e4)
      · have hsa : Seq K H1 a xs := .inr (ex_t e1 h3)
        have hsb : Seq K H1 b ys := .inr (ex_t e1 h4)
        have hboth : (SqL K H1 a xs ∧ SqL K H1 b ys) ∨ (SqT K H1 a xs ∧ SqT K H1 b ys) := .inr ⟨ex_t e1 h3, ex_t e1 h4⟩
        refine g_isiSeq htp hsb ?_
        walk_at "k"
        with_reducible refine g_ifS ?_
        walk_at "k"
        refine g_isi (ty_t (ex_t e1 h3)) (show kitB _ _ = some false by decide +kernel) ?_
        walk_at "k"
        refine g_isi (ty_t (ex_t e1 h4)) (show kitB _ _ = some false by decide +kernel) ?_
        walk_at "k"
        rw [show (!decide (false = false)) = false from rfl]
        walk_at "k"
        refine g_isi (ty_t (ex_t e1 h3)) (show kitB _ _ = some true by decide +kernel) ?_
        walk_at "k"
        refine g_isi (ty_t (ex_t e1 h4)) (show kitB _ _ = some true by decide +kernel) ?_
        walk_at "k"
        rw [show (!decide (true = true)) = false from rfl]
        walk_at "k"
        refine g_len hsa ?_
        walk_at "k"
        refine g_len hsb ?_
        walk_at "k"
        have hlen := prd_len h6
        rw [show decide ((xs.length : Int) = (ys.length : Int)) = true by rw [hlen]; simp]
        walk_at "k"
        refine iZipK K (a := a) (b := b) (xs := xs) (ys := ys) (G := H1) (fun R hR => ?_) hlen hboth (fun _ _ z => z) fun L hL => ⟨fun j ac H' => Ex H1 H' ∧ ac = (List.replicate j true).map V.bl, fun H4 b4 e4 _ => ⟨e4, rfl⟩, fun _ _ _ z => z.1, ?_, ?_⟩
        · walk_at "k"
          exact hR
        · rintro j ac u v H4 T' H5 hu hv hal hL4 ⟨e4, rfl⟩ nT eT hT bT
          have hj := (List.getElem?_eq_some_iff.mp hu).1
          refine g_lcs ?_
          walk_at "k"
          refine g_gtup (st_of hT) rfl ?_
          walk_at "k"
          refine ⟨rfl, ?_⟩
          walk_at "k"
          have huv : Sm K H1 d u v := by
            obtain ⟨v', hv', hz⟩ := prd_get h6 hu
            rw [hv] at hv'
            cases hv'
            exact Sm.ex e1 hz
          refine ⟨u, v, rfl, Sm.ex (e4.trans eT) huv, fun H6 e6 => ?_⟩
          refine lcT_of hal (by omega) (e6 _ _ (eT _ _ hL4)) fun H7 b7 h7 => ⟨ex_but (e4.trans (eT.trans e6)) hL b7, ?_⟩
          rw [List.replicate_succ', List.map_append]
          rfl
        rintro ac H4 _ hL4 ⟨e4, rfl⟩
        walk_at "k"
        refine g_all (bs := List.replicate xs.length true) (sq_of hL4) ?_
        rw [show (List.replicate xs.length true).all id = true by rw [List.all_eq_true]; intro z hz; exact List.eq_of_mem_replicate hz]
        exact q H4 (e1.trans e4)
      · refine g_isiNo htp (.inr (.inr (.inr (.inr ⟨b, _, rfl, e1 _ _ h4⟩)))) ?_
        walk_at "k"
        with_reducible refine g_ifS ?_
        walk_at "k"
        refine g_isi (.base (.dK (e1 _ _ h4))) (show kitB _ _ = some true by decide +kernel) ?_
        walk_at "k"
        refine g_isi (.base (.dK (e1 _ _ h3))) (show kitB _ _ = some true by decide +kernel) ?_
        walk_at "k"
        with_reducible refine g_items ?_
        walk_at "k"
        refine g_items0 (e1 _ _ h3) fun p H2 np e2 hp => ?_
        walk_at "k"
        with_reducible refine g_items ?_
        walk_at "k"
        refine g_items0 (e2 _ _ (e1 _ _ h4)) fun p2 H3 np2 e3 hp2 => ?_
        walk_at "k"
        obtain ⟨d, rfl⟩ : ∃ k, d = k + 1 := ⟨d - 1, by omega⟩
        refine ⟨_, _, rfl, .inr (.inl ⟨p, p2, [], [], rfl, rfl, sq_of (e3 _ _ hp), sq_of hp2, by decide, .nil⟩), fun H4 e4 => ?_⟩
        exact q H4 (e1.trans (e2.trans (e3.trans e4)))
end
end Tk
namespace Tk
open PySem PySem.Spec PyProof.Rows L2
open Evl (Ex ex_l ex_t ex_rd sq_of st_of fresh_back)
local macro_rules | `(tactic| walk_at "g") => `(tactic| (repeat (first
  | (with_reducible refine g_seq ?_) | (with_reducible refine g_asg ?_) | (with_reducible refine g_name ?_) | (with_reducible refine g_sub ?_)
  | ((with_reducible refine' g_var ?e ?_); (case e => exact rfl)) | (with_reducible refine g_c ?_) | (with_reducible refine g_op ?_) | (with_reducible refine g_un ?_) | (with_reducible refine g_U ?_)
  | (with_reducible refine g_I0 ?_) | (with_reducible refine g_eqI ?_) | (with_reducible refine g_neI ?_) | (with_reducible refine g_eqS ?_) | (with_reducible refine g_neS ?_) | (with_reducible refine g_eqB ?_) | (with_reducible refine g_neB ?_)
  | (with_reducible refine g_test ?_) | (with_reducible refine g_tB ?_) | (with_reducible refine g_bl ?_) | (with_reducible refine g_and ?_) | (with_reducible refine g_or ?_) | (with_reducible refine g_not ?_)
  | (with_reducible refine g_andV ?_) | (with_reducible refine g_orV ?_) | (with_reducible refine g_notV ?_) | (with_reducible refine g_ifE ?_) | (with_reducible refine g_ifS ?_)
  | (with_reducible refine g_next ?_) | (with_reducible refine g_ret ?_) | (with_reducible refine g_drop ?_) | (with_reducible refine g_nil ?_) | (with_reducible refine g_cons ?_) | (with_reducible refine g_call ?_)
  | (with_reducible refine g_cb ?_) | (with_reducible refine g_bm ?_) | (with_reducible refine g_lst ?_) | (with_reducible refine g_tup ?_) | (with_reducible refine iteT ?_) | (with_reducible refine iteF ?_) | (with_reducible refine g_nt ?_) | (with_reducible refine g_nf ?_)
  | (with_reducible refine g_par ?_) | (with_reducible refine g_par3 ?_) | (with_reducible refine g_two ?_) | (with_reducible refine g_three ?_) | (with_reducible refine g_ckw ?_) | (with_reducible refine g_yes ?_) | (with_reducible refine g_chain ?_) | (with_reducible refine g_gnil ?_) | (with_reducible refine g_gcons ?_) | (with_reducible refine g_fld ?_) | (with_reducible refine g_sfld ?_) | (with_reducible refine g_isN ?_) | (with_reducible refine g_nint ?_) | (with_reducible refine g_nintB ?_) | (with_reducible refine g_max ?_) | (with_reducible refine g_min ?_))))
local macro_rules | `(tactic| walk_at "k") => `(tactic| (repeat (first
  | (with_reducible refine g_seq ?_) | (with_reducible refine g_asg ?_) | (with_reducible refine g_name ?_) | (with_reducible refine g_sub ?_)
  | ((with_reducible refine' g_var ?e ?_); (case e => exact rfl)) | (with_reducible refine g_c ?_) | (with_reducible refine g_op ?_) | (with_reducible refine g_un ?_) | (with_reducible refine g_U ?_)
  | (with_reducible refine g_I0 ?_) | (with_reducible refine g_eqI ?_) | (with_reducible refine g_neI ?_) | (with_reducible refine g_eqS ?_) | (with_reducible refine g_neS ?_) | (with_reducible refine g_eqB ?_) | (with_reducible refine g_neB ?_)
  | (with_reducible refine g_test ?_) | (with_reducible refine g_tB ?_) | (with_reducible refine g_bl ?_) | (with_reducible refine g_and ?_) | (with_reducible refine g_or ?_) | (with_reducible refine g_not ?_)
  | (with_reducible refine g_andV ?_) | (with_reducible refine g_orV ?_) | (with_reducible refine g_notV ?_) | (with_reducible refine g_ifE ?_)
  | (with_reducible refine g_next ?_) | (with_reducible refine g_ret ?_) | (with_reducible refine g_drop ?_) | (with_reducible refine g_nil ?_) | (with_reducible refine g_cons ?_) | (with_reducible refine g_call ?_)
  | (with_reducible refine g_cb ?_) | (with_reducible refine g_bm ?_) | (with_reducible refine g_lst ?_) | (with_reducible refine g_tup ?_) | (with_reducible refine iteT ?_) | (with_reducible refine iteF ?_) | (with_reducible refine g_nt ?_) | (with_reducible refine g_nf ?_)
  | (with_reducible refine g_par ?_) | (with_reducible refine g_par3 ?_) | (with_reducible refine g_two ?_) | (with_reducible refine g_three ?_) | (with_reducible refine g_ckw ?_) | (with_reducible refine g_yes ?_) | (with_reducible refine g_chain ?_) | (with_reducible refine g_gnil ?_) | (with_reducible refine g_gcons ?_) | (with_reducible refine g_fld ?_) | (with_reducible refine g_sfld ?_) | (with_reducible refine g_isN ?_) | (with_reducible refine g_nint ?_) | (with_reducible refine g_nintB ?_) | (with_reducible refine g_max ?_) | (with_reducible refine g_min ?_))))
/-- tuples all the way -/
def Fz (K : PySem.W.Frag) (H : Hp) : Nat → V → Prop
  | 0, x => Atm x
  | d + 1, x => Atm x ∨ ∃ t xs, x = .ref t ∧ SqT K H t xs ∧ xs.length ≤ 1000 ∧ ∀ y ∈ xs, Fz K H d y
theorem sqT_exB {K : PySem.W.Frag} {S : List Addr} {H H' : Hp} {a : Addr} {xs : List V} (q : SqT K H a xs) (e : ExB S H H') (hs : LsS S H) : SqT K H' a xs := by
  have ne : ∀ o, H a = some o → tupO o = true → H' a = some o := fun o z y => e a o (fun w => by
    obtain ⟨ys, hy⟩ := hs a w
    rw [z] at hy
    cases hy
    cases y) z
  rcases q with (h2 | ⟨o, h2⟩) | h2
  · exact .inl (.inl (ne _ h2 rfl))
  · exact .inl (.inr ⟨o, ne _ h2 rfl⟩)
  · exact .inr h2
theorem Fz.exB {K : PySem.W.Frag} {S : List Addr} {H H' : Hp} (e : ExB S H H') (hs : LsS S H) : ∀ {d : Nat} {x : V}, Fz K H d x → Fz K H' d x
  | 0, _, h => h
  | d + 1, _, h => by
    rcases h with h | ⟨t, xs, h1, h2, h3, h4⟩
    · exact .inl h
    · exact .inr ⟨t, xs, h1, sqT_exB h2 e hs, h3, fun y hy => Fz.exB e hs (h4 y hy)⟩
theorem Fz.ex {K : PySem.W.Frag} {H H' : Hp} (e : Ex H H') {d : Nat} {x : V} (h : Fz K H d x) : Fz K H' d x := h.exB (S := []) (exB_of e) lsS_nil
def spSpoil (K : PySem.W.Frag) (d : Nat) : Sp := fun vs H Q _ => ∃ v, vs = [v] ∧ ((Fz K H d v ∧ ∀ H', Ex H H' → Q .non H') ∨
  (∃ d' a xs, d = d' + 1 ∧ v = .ref a ∧ H a = some (.lst xs) ∧ xs.length ≤ 1000 ∧ (∀ x ∈ xs, Fz K H d' x) ∧ ∀ H', ExB [a] H H' → Q .non H') ∨
  (∃ d' a bs, d = d' + 2 ∧ v = .ref a ∧ H a = some (.lst (bs.map V.ref)) ∧ bs.length ≤ 1000 ∧ (a :: bs).Nodup ∧ (∀ b ∈ bs, ∃ xs, H b = some (.lst xs) ∧ xs.length ≤ 1000 ∧ ∀ x ∈ xs, Fz K H d' x) ∧ ∀ H', ExB (a :: bs) H H' → Q .non H'))
def spSpoilP (K : PySem.W.Frag) : Nat → Sp
  | 0 => fun _ _ _ _ => False
  | d + 1 => spSpoil K d
/-- all but the lists bs -/
def hidL (bs : List Addr) (H : Hp) : Hp := fun b => if b ∈ bs then none else H b
theorem hidL_of {bs : List Addr} {H : Hp} {b : Addr} {o : HO} (h : H b = some o) (n : b ∉ bs) : hidL bs H b = some o := by
  unfold hidL
  rw [if_neg n]
  exact h
theorem hidL_ex {bs : List Addr} {H H' : Hp} (e : ExB bs H H') : Ex (hidL bs H) H' := fun b o h => by
  unfold hidL at h
  by_cases n : b ∈ bs
  · rw [if_pos n] at h
    cases h
  · rw [if_neg n] at h
    exact e b o n h
section
variable {P : Program} {w : World} {K : PySem.W.Frag} {mg : Str → Option Value} {base : Heap}
theorem sc_w_a_spoiled : FnScope ["_law_thing", "_law_part", "_law_key"] ["_law_thing"] (defScope st_w_a_spoiled) := ⟨rfl, rfl, rfl, by decide +kernel, rfl, by decide +kernel, by decide +kernel⟩
theorem ok_w_a_spoiled (T : Txt K mg) : ∀ d : Nat, Kept P w K mg base CX0 (1 + d) "_law_a_spoiled" ["_law_thing"] (spSpoil K d) := by
  intro d
  have G_w_a_spoiled : Kept P w K mg base CX0 d "_law_a_spoiled" ["_law_thing"] (spSpoilP K d) := by
    cases d with
    | zero => exact keptF T.d_w_a_spoiled
    | succ d =>
      have := ok_w_a_spoiled T d
      exact this.mono (by omega)
  have e : 1 + d = d + 1 := by omega
  rw [e]
  refine kept0 T.d_w_a_spoiled sc_w_a_spoiled (fun vs H Q E h => ?_) (fun cdv A outer s H0 vs Q E hr h => ?_)
  · obtain ⟨v, rfl, _⟩ := h
    rfl
  · obtain ⟨v, rfl, q⟩ := h
    refine ⟨_, (pss_cons (ps_if (pt_val (pe_callB call_isiT (by rfl) T.f_isinstance (by decide +kernel) (pa_cons (pv 0) (pa_cons (pe_tup (pa_cons (pe_bltn (v := .ty "list") (by rfl) T.f_list (by decide +kernel) rfl) (pa_cons (pe_bltn (v := .ty "tuple") (by rfl) T.f_tuple (by decide +kernel) rfl) pa_nil))) pa_nil)))) (pss_one (ps_for PassesOwn.never rfl (pi_q (pv 0)) (pg_name (i := 1) sc_w_a_spoiled.nd rfl (Or.inl rfl)) (pss_one (ps_expr (pe_c G_w_a_spoiled (hr.mono (by omega)) pass0 (pa_cons (pv 1) pa_nil)))))) pss_nil)
      (pss_cons (ps_if (pt_val (pe_callB call_isi (by rfl) T.f_isinstance (by decide +kernel) (pa_cons (pv 0) (pa_cons (pe_bltn (v := .ty "dict") (by rfl) T.f_dict (by decide +kernel) rfl) pa_nil)))) (pss_cons (ps_for PassesOwn.never rfl (pi_q (pe_callTy cList (by rfl) T.f_list (by decide +kernel) (pa_cons (pv 0) pa_nil))) (pg_name (i := 2) sc_w_a_spoiled.nd rfl (Or.inl rfl)) (pss_one (ps_expr (pe_c G_w_a_spoiled (hr.mono (by omega)) pass0 (pa_cons (pe_ix ix_list (pv 0) (pv 2) (fun _ _ => rfl)) pa_nil)))))
      (pss_one (ps_asg pe_str (pg_sub (pv 0) pe_str set_list)))) pss_nil)
      (pss_one (ps_if (pt_val (pe_callB call_isi (by rfl) T.f_isinstance (by decide +kernel) (pa_cons (pv 0) (pa_cons (pe_bltn (v := .ty "list") (by rfl) T.f_list (by decide +kernel) rfl) pa_nil)))) (pss_one (ps_expr (pe_bmK K PySem.F.plainAttrs_list PySem.F.slot_list_append PySem.F.type_list_append mt_append (pv 0) (pa_cons pe_str pa_nil)))) pss_nil)))), ?_⟩
    walk_at "k"
    with_reducible refine g_ifS ?_
    walk_at "k"
    refine g_newT (sz (of_decide_eq_true rfl)) fun tp H1 ntp e1 htp b1 => ?_
    walk_at "k"
    rcases q with ⟨hz, q⟩ | ⟨d', a, xs, rfl, rfl, ha, hl, hfz, q⟩ | ⟨d', a, bs, rfl, rfl, ha, hl, hnd, hbs, q⟩
    · cases d with
      | zero =>
        rcases hz with rfl | ⟨b, rfl⟩ | ⟨i, rfl⟩ | ⟨z, rfl⟩
        · refine g_isiNo htp (.inl rfl) ?_
          walk_at "k"
          with_reducible refine g_ifS ?_
          walk_at "k"
          refine g_isi (.base .non) (show kitB _ _ = some false by decide +kernel) ?_
          walk_at "k"
          with_reducible refine g_ifS ?_
          walk_at "k"
          refine g_isi (.base .non) (show kitB _ _ = some false by decide +kernel) ?_
          walk_at "k"
          exact q H1 e1
        · refine g_isiNo htp (.inr (.inl ⟨b, rfl⟩)) ?_
          walk_at "k"
          with_reducible refine g_ifS ?_
          walk_at "k"
          refine g_isi (.base (.bl b)) (show kitB _ _ = some false by decide +kernel) ?_
          walk_at "k"
          with_reducible refine g_ifS ?_
          walk_at "k"
          refine g_isi (.base (.bl b)) (show kitB _ _ = some false by decide +kernel) ?_
          walk_at "k"
          exact q H1 e1
        · refine g_isiNo htp (.inr (.inr (.inl ⟨i, rfl⟩))) ?_
          walk_at "k"
          with_reducible refine g_ifS ?_
          walk_at "k"
          refine g_isi (.base (.int i)) (show kitB _ _ = some false by decide +kernel) ?_
          walk_at "k"
          with_reducible refine g_ifS ?_
          walk_at "k"
          refine g_isi (.base (.int i)) (show kitB _ _ = some false by decide +kernel) ?_
          walk_at "k"
          exact q H1 e1
        · refine g_isiNo htp (.inr (.inr (.inr (.inl ⟨z, rfl⟩)))) ?_
          walk_at "k"
          with_reducible refine g_ifS ?_
          walk_at "k"
          refine g_isi (.base (.str z)) (show kitB _ _ = some false by decide +kernel) ?_
          walk_at "k"
          with_reducible refine g_ifS ?_
          walk_at "k"
          refine g_isi (.base (.str z)) (show kitB _ _ = some false by decide +kernel) ?_
          walk_at "k"
          exact q H1 e1
      | succ d =>
        rcases hz with (rfl | ⟨b, rfl⟩ | ⟨i, rfl⟩ | ⟨z, rfl⟩) | ⟨t, xs, rfl, ht, hl, hfz⟩
        · refine g_isiNo htp (.inl rfl) ?_
          walk_at "k"
          with_reducible refine g_ifS ?_
          walk_at "k"
          refine g_isi (.base .non) (show kitB _ _ = some false by decide +kernel) ?_
          walk_at "k"
          with_reducible refine g_ifS ?_
          walk_at "k"
          refine g_isi (.base .non) (show kitB _ _ = some false by decide +kernel) ?_
          walk_at "k"
          exact q H1 e1
        · refine g_isiNo htp (.inr (.inl ⟨b, rfl⟩)) ?_
          walk_at "k"
          with_reducible refine g_ifS ?_
          walk_at "k"
          refine g_isi (.base (.bl b)) (show kitB _ _ = some false by decide +kernel) ?_
          walk_at "k"
          with_reducible refine g_ifS ?_
          walk_at "k"
          refine g_isi (.base (.bl b)) (show kitB _ _ = some false by decide +kernel) ?_
          walk_at "k"
          exact q H1 e1
        · refine g_isiNo htp (.inr (.inr (.inl ⟨i, rfl⟩))) ?_
          walk_at "k"
          with_reducible refine g_ifS ?_
          walk_at "k"
          refine g_isi (.base (.int i)) (show kitB _ _ = some false by decide +kernel) ?_
          walk_at "k"
          with_reducible refine g_ifS ?_
          walk_at "k"
          refine g_isi (.base (.int i)) (show kitB _ _ = some false by decide +kernel) ?_
          walk_at "k"
          exact q H1 e1
        · refine g_isiNo htp (.inr (.inr (.inr (.inl ⟨z, rfl⟩)))) ?_
          walk_at "k"
          with_reducible refine g_ifS ?_
          walk_at "k"
          refine g_isi (.base (.str z)) (show kitB _ _ = some false by decide +kernel) ?_
          walk_at "k"
          with_reducible refine g_ifS ?_
          walk_at "k"
          refine g_isi (.base (.str z)) (show kitB _ _ = some false by decide +kernel) ?_
          walk_at "k"
          exact q H1 e1
        · refine g_isiSeq htp (.inr (ex_t e1 ht)) ?_
          walk_at "k"
          refine g_forI ?_
          walk_at "k"
          refine over_for (G := H0) (xs := xs) (.inr ht) e1 (fun i σ H => ∃ (o1 o2 : Option V), σ = [some (.ref t), o1, o2] ∧ Ex H1 H) ?_ ?_ ?_ ?_
          · exact ⟨none, none, rfl, fun _ _ z => z⟩
          · rintro i σ H ⟨_, _, _, z⟩
            exact e1.trans z
          · rintro i x σ H hx ⟨o1, o2, rfl, eH⟩
            walk_at "k"
            refine ⟨x, rfl, .inl ⟨(hfz x (List.mem_of_getElem? hx)).ex (e1.trans eH), fun H2 e2 => ?_⟩⟩
            walk_at "k"
            exact ⟨_, _, rfl, eH.trans e2⟩
          · rintro σ H ⟨o1, o2, rfl, eH⟩
            walk_at "k"
            with_reducible refine g_ifS ?_
            walk_at "k"
            refine g_isi (ty_t (ex_t (e1.trans eH) ht)) (show kitB _ _ = some false by decide +kernel) ?_
            walk_at "k"
            with_reducible refine g_ifS ?_
            walk_at "k"
            refine g_isi (ty_t (ex_t (e1.trans eH) ht)) (show kitB _ _ = some false by decide +kernel) ?_
            walk_at "k"
            exact q H (e1.trans eH)
    · refine g_isiSeq htp (.inl (sq_of (e1 _ _ ha))) ?_
      walk_at "k"
      refine g_forI ?_
      walk_at "k"
      refine over_for (G := H0) (xs := xs) (.inl (sq_of ha)) e1 (fun i σ H => ∃ (o1 o2 : Option V), σ = [some (.ref a), o1, o2] ∧ Ex H1 H) ?_ ?_ ?_ ?_
      · exact ⟨none, none, rfl, fun _ _ z => z⟩
      · rintro i σ H ⟨_, _, _, z⟩
        exact e1.trans z
      · rintro i x σ H hx ⟨o1, o2, rfl, eH⟩
        walk_at "k"
        refine ⟨x, rfl, .inl ⟨(hfz x (List.mem_of_getElem? hx)).ex (e1.trans eH), fun H2 e2 => ?_⟩⟩
        walk_at "k"
        exact ⟨_, _, rfl, eH.trans e2⟩
      · rintro σ H ⟨o1, o2, rfl, eH⟩
        have haH := eH _ _ (e1 _ _ ha)
        walk_at "k"
        with_reducible refine g_ifS ?_
        walk_at "k"
        refine g_isi (ty_l (sq_of haH)) (show kitB _ _ = some false by decide +kernel) ?_
        walk_at "k"
        with_reducible refine g_ifS ?_
        walk_at "k"
        refine g_isi (ty_l (sq_of haH)) (show kitB _ _ = some true by decide +kernel) ?_
        walk_at "k"
        refine ⟨ty_L haH, ?_⟩
        walk_at "k"
        refine g_app haH (szl (by omega)) fun H2 b2 h2 => ?_
        walk_at "k"
        refine q H2 fun b o hb z => ?_
        rw [b2 b (by simpa using hb)]
        exact eH _ _ (e1 _ _ z)
    · refine g_isiSeq htp (.inl (sq_of (e1 _ _ ha))) ?_
      walk_at "k"
      have hab := (List.nodup_cons.mp hnd).1
      have hnb := (List.nodup_cons.mp hnd).2
      have hls : LsS bs H1 := fun b hb => by
        obtain ⟨xs, h, _⟩ := hbs b hb
        exact ⟨xs, e1 _ _ h⟩
      refine g_forI ?_
      walk_at "k"
      refine over_for (G := hidL bs H1) (xs := bs.map V.ref) (.inl (sq_of (hidL_of (e1 _ _ ha) hab))) (hidL_ex ExB.refl) (fun i σ H => ∃ (o1 o2 : Option V), σ = [some (.ref a), o1, o2] ∧ ExB (bs.take i) H1 H) ?_ ?_ ?_ ?_
      · exact ⟨none, none, rfl, ExB.refl⟩
      · rintro i σ H ⟨_, _, _, z⟩
        exact hidL_ex fun b o hb y => z b o (fun w => hb (List.mem_of_mem_take w)) y
      · rintro i x σ H hx ⟨o1, o2, rfl, eH⟩
        rw [List.getElem?_map] at hx
        cases hu2 : bs[i]? with
        | none => rw [hu2] at hx; cases hx
        | some b =>
          rw [hu2] at hx
          obtain rfl : V.ref b = x := Option.some.inj hx
          have hbm := List.mem_of_getElem? hu2
          obtain ⟨xs, hb, hxl, hfx⟩ := hbs b hbm
          have hbt : b ∉ bs.take i := fun hm => by
            obtain ⟨j, hj, e'⟩ := List.getElem_of_mem hm
            rw [List.length_take] at hj
            rw [List.getElem_take] at e'
            have hi := (List.getElem?_eq_some_iff.mp hu2)
            have := (List.getElem_inj hnb (h₀ := by omega) (h₁ := hi.1)).mp (e'.trans hi.2.symm)
            omega
          have hbH := eH b _ hbt (e1 _ _ hb)
          have hlt : LsS (bs.take i) H1 := fun b' hb' => hls b' (List.mem_of_mem_take hb')
          walk_at "k"
          refine ⟨_, rfl, .inr (.inl ⟨d', b, xs, rfl, rfl, hbH, hxl, fun y hy => ((hfx y hy).ex e1).exB eH hlt, fun H2 e2 => ?_⟩)⟩
          walk_at "k"
          refine ⟨_, _, rfl, fun b' o hb' z => ?_⟩
          rw [take_snoc hu2, List.mem_append, List.mem_singleton, not_or] at hb'
          exact e2 b' o (by simpa using hb'.2) (eH b' o hb'.1 z)
      · rintro σ H ⟨o1, o2, rfl, eH⟩
        rw [List.length_map, List.take_length] at eH
        have haH := eH a _ hab (e1 _ _ ha)
        walk_at "k"
        with_reducible refine g_ifS ?_
        walk_at "k"
        refine g_isi (ty_l (sq_of haH)) (show kitB _ _ = some false by decide +kernel) ?_
        walk_at "k"
        with_reducible refine g_ifS ?_
        walk_at "k"
        refine g_isi (ty_l (sq_of haH)) (show kitB _ _ = some true by decide +kernel) ?_
        walk_at "k"
        refine ⟨ty_L haH, ?_⟩
        walk_at "k"
        refine g_app haH (szl (by rw [List.length_map]; omega)) fun H2 b2 h2 => ?_
        walk_at "k"
        refine q H2 fun b o hb z => ?_
        rw [List.mem_cons, not_or] at hb
        rw [b2 b hb.1]
        exact eH b o hb.2 (e1 _ _ z)
end
end Tk
namespace Tk
open PySem PySem.Spec PyProof.Rows L2
/-! ### several clauses `except x as n`, one name -/
abbrev Cl := Value × (Addr → Value → Option Addr → TS)
/-- the wish of the suite: the name goes behind it -/
def endsAt (i : Nat) (D : Ends) : Ends := { nx := fun σ' H' => D.nx (σ'.set i none) H', rt := D.rt, bk := fun σ' H' => D.bk (σ'.set i none) H', ct := fun σ' H' => D.ct (σ'.set i none) H' }
def wAsMany (K : PySem.W.Frag) (n : Nat) (Wout : WX) (i : Nat) (D : Ends) : List Cl → WX
  | [] => Wout
  | (c, ts) :: r => fun cls d σ H => ∃ b, PySem.W.exmOne K cls c = some b ∧ (b = true → ∀ a, H a = none → σ.length = n → ts a cls d (endsAt i D) (σ.set i (some (.ref a))) H) ∧ (b = false → wAsMany K n Wout i D r cls d σ H)
inductive HdsAs (X : Cx) (nm : Str) : List ExceptHandler → List Cl → Prop
  | nil : HdsAs X nm [] []
  | cons {x : Str} {c : Value} {ts : Addr → Value → Option Addr → TS} {b0 : Stmt} {bs : List Stmt} {np hp : Pos} {hds : List ExceptHandler} {l : List Cl} (hc : Names X x c)
      (hsu : ∀ (a : Addr) (oe : Obj) (cls : Value) (d : Option Addr) (pn : List (Addr × Obj)), Zc cls d oe → (∃ vs, oe.data = .fields vs) → PSs (X.suite a ((a, oe) :: pn)) (b0 :: bs) (ts a cls d)) (more : HdsAs X nm hds l) :
      HdsAs X nm (.ExceptHandler (some (.Name x np)) (some nm) (b0 :: bs) hp :: hds) ((c, ts) :: l)
section
variable {X : Cx} {body : List Stmt} {h0 : ExceptHandler} {hds : List ExceptHandler} {l : List Cl} {pos : Pos} {tb : WX → TS} {Wout : WX} {nm : Str} {i : Nat}
theorem ps_try_asMany (hs : X.stack = X.env :: X.outer) (hf : X.env.frame = some X.env.locals) (hN : X.N.Nodup) (hi : X.N[i]? = some nm) (hln : X.env.kindOf nm = some .local) (tk : Takes X Wout)
    (hb : ∀ (W : WX) (pn : List (Addr × Obj)) (xe : Value → Shared → Prop), Takes (X.tr pn xe) W → PassesOwn (model X.prog X.w) X.A X.env xe → PSs (X.tr pn xe) body (tb W))
    (hh : HdsAs X nm (h0 :: hds) l) : PS X (.Try body (h0 :: hds) [] [] pos) (fun D σ H => tb (wAsMany X.K X.N.length Wout i D l) D σ H) := by
  constructor
  intro pins s σ H D I hw
  have ok := I.ok
  have frA : X.A.frames = some (X.env :: X.outer) := by rw [ok.frames, hs]
  have locN : Loc X.env.scope nm := .inl hln
  refine wpAny_Try_except (wpAny_mono ((hb (wAsMany X.K X.N.length Wout i D l) (X.pn ++ pins) (fun e t1 => wpAny (model X.prog X.w) X.A (noteFrame e X.env) (fun _ t2 => wpAny (model X.prog X.w) X.A (setFlight e none) (fun _ t3 =>
    wpAny (model X.prog X.w) X.A (handleBy e X.env (h0 :: hds)) (SP X pins D) X.xe t3) X.xe t2) X.xe t1) (fun u sx xx => ?_) PassesOwn.looking).run [] s σ H D (I.toTry _) hw) (fun f t1 hsp => ?_) (fun e t1 he => he))
  · obtain ⟨a, B, sJ, pins', σx, Hx, cls, d, rfl, Jt, nb, up, sky, na, os, ag, wish⟩ := xx
    have J : Inv X pins σx Hx sJ := Jt.ofTry ok
    have skyE : Sky B (X.env :: X.outer) a (Zc cls d) X.env.locals sx.heap := by rw [← hs]; exact sky
    show wpAny (model X.prog X.w) X.A (noteFrame (.ref a) X.env) _ _ _
    refine Sky.land Zc.steady frA hf skyE fun hx fly up2 => ?_
    have Jx : Inv X pins σx Hx { sx with heap := hx } := J.landed nb fly.1 (up.trans up2) os ag
    obtain ⟨ox, vx, ex, zx, dx⟩ := fly.there
    have offFr : a ∉ frs (X.env :: X.outer) := fun hm => by
      obtain ⟨_, o', e', hnf⟩ := (fly.2.2.1 : hx.FunFrames B (X.env :: X.outer)).mem hm
      rw [ex] at e'; cases e'
      exact hnf _ dx
    have neL : a ≠ X.env.locals := fun z => offFr (List.mem_filterMap.mpr ⟨X.env, List.mem_cons_self, by rw [hf, z]⟩)
    have neF : a ∉ X.fs := fun hm => by
      obtain ⟨e1, h1, h2⟩ := List.mem_filterMap.mp hm
      exact offFr (List.mem_filterMap.mpr ⟨e1, List.mem_cons_of_mem _ h1, h2⟩)
    have Sx := Jx.suite ex dx na neL neF
    suffices go : ∀ {gs : List ExceptHandler} {k : List Cl}, HdsAs X nm gs k → wAsMany X.K X.N.length Wout i D k cls d σx Hx → wpAny (model X.prog X.w) X.A (handleBy (.ref a) X.env gs) (SP X pins D) X.xe { sx with heap := hx } from go hh wish
    intro gs k hk
    induction hk with
    | nil =>
      intro wq
      refine wpAny_handleBy_nil ?_
      obtain ⟨_, _, _, oq, vq, T, oT, tsq, heq, hzq, hdq, h1q, hrq⟩ := id fly
      unfold PySem.passOn
      refine wpAny_bind (wpAny_field heq hdq h1q ?_)
      rw [if_neg (show ¬ ((Value.ref T == Value.none) = true) by simp)]
      have out : wpAny (model X.prog X.w) X.A (setFlight (.ref a) X.env.frame) (fun _ t4 => wpAny (model X.prog X.w) X.A (throw (.ref a) : Sem Flow) (SP X pins D) X.xe t4) X.xe { sx with heap := hx } := by
        rw [hf]
        refine HandSPX.setFlight_upZ fly fun h4 hh4 up4 => wpAny_throw (tk _ _ ⟨a, B, sJ, pins, σx, Hx, cls, d, rfl, J, nb, (up.trans up2).trans up4, .inr (.inr (by rw [hs]; exact hh4)), na, os, ag, wq⟩)
      first
        | exact wpAny_bind (wpAny_pure (wpAny_bind out))
        | exact wpAny_bind out
    | @cons x c ts b0 bs np hp hds2 l2 hc hsu more ih =>
      intro wq
      obtain ⟨b, hb1, yes, no⟩ := wq
      refine wpAny_handleBy_cons (codeAny_handlers_test ?_) (by intro q; cases q)
      have LT : PySem.W.Looks (model X.prog X.w) hx (typeOf (.ref a)) cls := fun A Q E s k q => wpAny_typeOf_ref (k _ _ ex) (by rw [zx.1]; exact q)
      have named : ∀ {Q : Value → Shared → Prop} {E : Value → Shared → Prop}, Q c { sx with heap := hx } → wpAny (model X.prog X.w) (X.A.mark (some (.ref a))) (eval (.Name x np) X.env) Q E { sx with heap := hx } := fun {Q E} q => by
        obtain ⟨hg, hdb, hm | ⟨hm, hv, hnn⟩⟩ := hc
        · exact ld_glob (X := X.suite a ((a, ox) :: (X.pn ++ pins))) Sx hg hm q hdb
        · exact ld_blt (X := X.suite a ((a, ox) :: (X.pn ++ pins))) Sx hg hm hv q hnn hdb
      refine named ((PySem.W.exm_one (M := model X.prog X.w) Jx.kIn LT hb1).here ?_)
      cases b with
      | false => exact ih (no rfl)
      | true =>
        refine codeAny_handlers_suite_as (HandSPX.lands_againZ fly fun h4 fl4 up4 => ?_)
        have J4 : Inv X pins σx Hx { sx with heap := h4 } := J.landed nb fl4.1 ((up.trans up2).trans up4) os ag
        obtain ⟨o4, v4, e4, z4, d4⟩ := fl4.there
        refine store_ok (X := X.suite a ((a, o4) :: (X.pn ++ pins))) (v := .ref a) (J4.suite e4 d4 na neL neF) hN hi locN rfl (fun t5 S5 => ?_) (.inr hln)
        refine wpAny_mono ((hsu a o4 cls d (X.pn ++ pins) z4 ⟨_, d4⟩).run [] t5 _ Hx _ S5 (yes rfl a na Jx.len)) (fun f t6 hsp => ?_) (fun _ _ z => False.elim z)
        have goes : ∀ {σ6 : L2.St} {H6 : Hp} {Q : Shared → Prop}, Inv (X.suite a ((a, o4) :: (X.pn ++ pins))) [] σ6 H6 t6 → (∀ t7, Inv X pins (σ6.set i none) H6 t7 → Q t7) →
            wpAny (model X.prog X.w) X.A (do bindName X.env nm .none; unbindBehindTheSuite X.env nm hp) (fun _ t7 => Q t7) X.xe t6 := fun {σ6 H6 Q} S6 hq => gone_ok (S6.unsuite ok) hN hi hln hq
        cases f with
        | ret u =>
          obtain ⟨w6, σ6, H6, S6, r6, q6⟩ := hsp
          exact goes S6 fun t7 J7 => ⟨_, _, _, J7, r6, q6⟩
        | next =>
          obtain ⟨σ6, H6, S6, q6⟩ := hsp
          exact goes S6 fun t7 J7 => ⟨_, _, J7, q6⟩
        | brk =>
          obtain ⟨σ6, H6, S6, q6⟩ := hsp
          exact goes S6 fun t7 J7 => ⟨_, _, J7, q6⟩
        | cont =>
          obtain ⟨σ6, H6, S6, q6⟩ := hsp
          exact goes S6 fun t7 J7 => ⟨_, _, J7, q6⟩
  · cases f with
    | ret u =>
      obtain ⟨v, σx, Hx, Jx, rx, q⟩ := hsp
      exact ⟨v, σx, Hx, Jx.ofTry ok, rx, q⟩
    | next =>
      obtain ⟨σx, Hx, Jx, q⟩ := hsp
      exact wpAny_execs_nil ⟨σx, Hx, Jx.ofTry ok, q⟩
    | brk =>
      obtain ⟨σx, Hx, Jx, q⟩ := hsp
      exact ⟨σx, Hx, Jx.ofTry ok, q⟩
    | cont =>
      obtain ⟨σx, Hx, Jx, q⟩ := hsp
      exact ⟨σx, Hx, Jx.ofTry ok, q⟩
end
end Tk
namespace Tk
open PySem PySem.Spec PyProof.Rows L2
open Evl (Ex ex_l ex_t ex_rd sq_of st_of fresh_back)
local macro_rules | `(tactic| walk_at "g") => `(tactic| (repeat (first
  | (with_reducible refine g_seq ?_) | (with_reducible refine g_asg ?_) | (with_reducible refine g_name ?_) | (with_reducible refine g_sub ?_)
  | ((with_reducible refine' g_var ?e ?_); (case e => exact rfl)) | (with_reducible refine g_c ?_) | (with_reducible refine g_op ?_) | (with_reducible refine g_un ?_) | (with_reducible refine g_U ?_)
  | (with_reducible refine g_I0 ?_) | (with_reducible refine g_eqI ?_) | (with_reducible refine g_neI ?_) | (with_reducible refine g_eqS ?_) | (with_reducible refine g_neS ?_) | (with_reducible refine g_eqB ?_) | (with_reducible refine g_neB ?_)
  | (with_reducible refine g_test ?_) | (with_reducible refine g_tB ?_) | (with_reducible refine g_bl ?_) | (with_reducible refine g_and ?_) | (with_reducible refine g_or ?_) | (with_reducible refine g_not ?_)
  | (with_reducible refine g_andV ?_) | (with_reducible refine g_orV ?_) | (with_reducible refine g_notV ?_) | (with_reducible refine g_ifE ?_) | (with_reducible refine g_ifS ?_)
  | (with_reducible refine g_next ?_) | (with_reducible refine g_ret ?_) | (with_reducible refine g_drop ?_) | (with_reducible refine g_nil ?_) | (with_reducible refine g_cons ?_) | (with_reducible refine g_call ?_)
  | (with_reducible refine g_cb ?_) | (with_reducible refine g_bm ?_) | (with_reducible refine g_lst ?_) | (with_reducible refine g_tup ?_) | (with_reducible refine iteT ?_) | (with_reducible refine iteF ?_) | (with_reducible refine g_nt ?_) | (with_reducible refine g_nf ?_)
  | (with_reducible refine g_par ?_) | (with_reducible refine g_par3 ?_) | (with_reducible refine g_two ?_) | (with_reducible refine g_three ?_) | (with_reducible refine g_ckw ?_) | (with_reducible refine g_yes ?_) | (with_reducible refine g_chain ?_) | (with_reducible refine g_gnil ?_) | (with_reducible refine g_gcons ?_) | (with_reducible refine g_fld ?_) | (with_reducible refine g_sfld ?_) | (with_reducible refine g_isN ?_) | (with_reducible refine g_nint ?_) | (with_reducible refine g_nintB ?_) | (with_reducible refine g_max ?_) | (with_reducible refine g_min ?_))))
local macro_rules | `(tactic| walk_at "k") => `(tactic| (repeat (first
  | (with_reducible refine g_seq ?_) | (with_reducible refine g_asg ?_) | (with_reducible refine g_name ?_) | (with_reducible refine g_sub ?_)
  | ((with_reducible refine' g_var ?e ?_); (case e => exact rfl)) | (with_reducible refine g_c ?_) | (with_reducible refine g_op ?_) | (with_reducible refine g_un ?_) | (with_reducible refine g_U ?_)
  | (with_reducible refine g_I0 ?_) | (with_reducible refine g_eqI ?_) | (with_reducible refine g_neI ?_) | (with_reducible refine g_eqS ?_) | (with_reducible refine g_neS ?_) | (with_reducible refine g_eqB ?_) | (with_reducible refine g_neB ?_)
  | (with_reducible refine g_test ?_) | (with_reducible refine g_tB ?_) | (with_reducible refine g_bl ?_) | (with_reducible refine g_and ?_) | (with_reducible refine g_or ?_) | (with_reducible refine g_not ?_)
  | (with_reducible refine g_andV ?_) | (with_reducible refine g_orV ?_) | (with_reducible refine g_notV ?_) | (with_reducible refine g_ifE ?_)
  | (with_reducible refine g_next ?_) | (with_reducible refine g_ret ?_) | (with_reducible refine g_drop ?_) | (with_reducible refine g_nil ?_) | (with_reducible refine g_cons ?_) | (with_reducible refine g_call ?_)
  | (with_reducible refine g_cb ?_) | (with_reducible refine g_bm ?_) | (with_reducible refine g_lst ?_) | (with_reducible refine g_tup ?_) | (with_reducible refine iteT ?_) | (with_reducible refine iteF ?_) | (with_reducible refine g_nt ?_) | (with_reducible refine g_nf ?_)
  | (with_reducible refine g_par ?_) | (with_reducible refine g_par3 ?_) | (with_reducible refine g_two ?_) | (with_reducible refine g_three ?_) | (with_reducible refine g_ckw ?_) | (with_reducible refine g_yes ?_) | (with_reducible refine g_chain ?_) | (with_reducible refine g_gnil ?_) | (with_reducible refine g_gcons ?_) | (with_reducible refine g_fld ?_) | (with_reducible refine g_sfld ?_) | (with_reducible refine g_isN ?_) | (with_reducible refine g_nint ?_) | (with_reducible refine g_nintB ?_) | (with_reducible refine g_max ?_) | (with_reducible refine g_min ?_))))
/-- what _law_met tells of an error -/
def ErrW (K : PySem.W.Frag) (Q : VK) : XK := fun cls d H' => ∃ (x w : Str) (v : V) (dd : Addr), ((x = "BadBook" ∧ w = "book") ∨ (x = "BadHeap" ∧ w = "heap") ∨ (x = "BadOption" ∧ w = "option") ∨ (x = "BadNumber" ∧ w = "number")) ∧
  cls = .ref (He.ga K x) ∧ d = some dd ∧ H' dd = some (.xd [("thing", v)]) ∧ NewT [.str w, v] H' Q
def TMet (K : PySem.W.Frag) : (XK → Hp → VK → Prop) → Hp → VK → Prop := fun tl H Q => tl (ErrW K Q) H fun v H1 => NewT [.str "told", v] H1 Q
theorem sc_w_met : FnScope ["_law_ask", "e"] ["_law_ask"] (defScope st_w_met) := ⟨rfl, rfl, rfl, by decide +kernel, rfl, by decide +kernel, by decide +kernel⟩
theorem met_gives {X : Cx} (T : Txt X.K X.mg) {g : Addr} {cdg : Value} {q : Str} :
    LamX.GivesTo X ["_law_ask", "e"] "_law_met" (defScope st_w_met) g cdg (defBody st_w_met) "_law_ask" q (TMet X.K) := by
  intro f c' s H Q tl act hc h
  refine ⟨_, pss_one (ps_try_asMany (X := (cxOf C8.CX0 X.prog X.w X.K X.mg X.base ["_law_ask", "e"] "_law_met" (defScope st_w_met) g cdg X.A X.stack s H C8.E0).nox) (i := 1) (nm := "e")
    (tb := fun W D σ H => ∃ Ech : XK, (∀ cls d σ' H', Ech cls d H' → W cls d σ' H') ∧ σ[0]? = some (some (.ref f)) ∧ H c' = some (LamX.CodeO c' q) ∧ tl Ech H fun v H1 => NewT [.str "told", v] H1 D.rt)
    rfl rfl sc_w_met.nd rfl rfl LamX.takes0 (fun W pn xe tk _ => ?_) (.cons ⟨rfl, by decide +kernel, .inl T.e_BadBook.g⟩ (fun a oe cls d pn hz hf => pss_one (ps_ret (pe_tup (pa_cons pe_str (pa_cons (pe_xf T.e_BadBook.xf T.e_BadBook.noF hz hf (pe_var (i := 1) rfl (.inl rfl))) pa_nil)))))
      (.cons ⟨rfl, by decide +kernel, .inl T.e_BadHeap.g⟩ (fun a oe cls d pn hz hf => pss_one (ps_ret (pe_tup (pa_cons pe_str (pa_cons (pe_xf T.e_BadHeap.xf T.e_BadHeap.noF hz hf (pe_var (i := 1) rfl (.inl rfl))) pa_nil)))))
      (.cons ⟨rfl, by decide +kernel, .inl T.e_BadOption.g⟩ (fun a oe cls d pn hz hf => pss_one (ps_ret (pe_tup (pa_cons pe_str (pa_cons (pe_xf T.e_BadOption.xf T.e_BadOption.noF hz hf (pe_var (i := 1) rfl (.inl rfl))) pa_nil)))))
      (.cons ⟨rfl, by decide +kernel, .inl T.e_BadNumber.g⟩ (fun a oe cls d pn hz hf => pss_one (ps_ret (pe_tup (pa_cons pe_str (pa_cons (pe_xf T.e_BadNumber.xf T.e_BadNumber.noF hz hf (pe_var (i := 1) rfl (.inl rfl))) pa_nil)))))
      .nil))))), ?_⟩
  · refine ⟨fun pins s' σ H' D I h' => ?_⟩
    obtain ⟨Ech, hW, h1, h2, h3⟩ := h'
    have hp := act W pn xe Ech ⟨270, 24, 270, 32⟩ ⟨270, 24, 270, 34⟩ tk hW
    have hq := pss_one (ps_ret (pos := ⟨270, 8, 270, 35⟩) (pe_tup (x1 := 0) (pos := ⟨270, 15, 270, 35⟩) (pa_cons (pe_str (x := "told") (j := 0) (pos := ⟨270, 16, 270, 22⟩)) (pa_cons hp pa_nil))))
    exact hq.run pins s' σ H' D I ⟨h1, h2, h3⟩
  · refine ⟨ErrW X.K Q, fun cls d σ' H' hE => ?_, rfl, hc, h⟩
    obtain ⟨x, w', v, dd, hx, rfl, rfl, hdd, hn⟩ := hE
    have fin : ∀ (C : Addr) (a : Addr), He.ga X.K x = C → σ'.length = 2 → tRet (tTup (tCons (tC (.str w')) (tCons (tXf a (.ref (He.ga X.K x)) (some dd) C "thing" (tVar 1)) tNil))) (endsAt 1 { nx := fun _ H' => Q .non H', rt := Q }) (σ'.set 1 (some (.ref a))) H' := fun C a hC hlen => by
      subst hC
      walk_at "k"
      refine ⟨.ref a, List.getElem?_set_self (by omega), rfl, rfl, dd, _, v, rfl, hdd, rfl, ?_⟩
      walk_at "k"
      exact hn
    rcases hx with ⟨rfl, rfl⟩ | ⟨rfl, rfl⟩ | ⟨rfl, rfl⟩ | ⟨rfl, rfl⟩
    · exact ⟨true, T.x_BadBook_BadBook, fun _ a _ hl => fin _ a rfl hl, fun z => by cases z⟩
    · exact ⟨false, T.x_BadHeap_BadBook, fun z => (by cases z), fun _ => ⟨true, T.x_BadHeap_BadHeap, fun _ a _ hl => fin _ a rfl hl, fun z => by cases z⟩⟩
    · exact ⟨false, T.x_BadOption_BadBook, fun z => (by cases z), fun _ => ⟨false, T.x_BadOption_BadHeap, fun z => (by cases z), fun _ => ⟨true, T.x_BadOption_BadOption, fun _ a _ hl => fin _ a rfl hl, fun z => by cases z⟩⟩⟩
    · exact ⟨false, T.x_BadNumber_BadBook, fun z => (by cases z), fun _ => ⟨false, T.x_BadNumber_BadHeap, fun z => (by cases z), fun _ => ⟨false, T.x_BadNumber_BadOption, fun z => (by cases z), fun _ => ⟨true, T.x_BadNumber_BadNumber, fun _ a _ hl => fin _ a rfl hl, fun z => by cases z⟩⟩⟩⟩
end Tk
namespace Tk
open PySem PySem.Spec PyProof.Rows L2
open Evl (Ex ex_l ex_t ex_rd sq_of st_of fresh_back)
/-- _law_met(lambda: ...) -/
theorem pe_met {X : Cx} (T : Txt X.K X.mg) {TL : List (Addr × Str)} {c tb : Addr} {k : Nat} {lp : Arguments} {lb : Expr} {sc : Scope} {t : XK → TE} {p q pos : Pos} (hg : Gl X "_law_met") (TB : LamX.TabB X.base X.mg c tb) (hcode : X.env.code = .ref c)
    (hmT : (tb, X.env.qual ++ "<lambda>") ∈ TL) (hu : ∀ z ∈ TL, z.1 = tb → z.2 = X.env.qual ++ "<lambda>") (hr : Room (k + 2) X.A) (L : LamX.LamS X.env.scope sc) (hdef : defaultsOf lp X.env = ([], []))
    (hbind : ∀ (q : Str) (cl : List (Str × Addr)) (pm cv ctv : Value), bindArgs (PySem.W.kla_fn "<lambda>" q lp lb sc cl pm cv ctv) ⟨[], []⟩ = pure [])
    (hbody : ∀ (A : Around) (outer : List Env) (s : Shared) (H : Hp) (E : XK) (f c' : Addr), Room k (A.deeper (LamX.lamEnv X sc s.heap.objs.size f c')) → PE (LamX.lamCx X A outer s H E sc f c') lb (t E)) :
    PE X (.Call (.Name "_law_met" p) [.Lambda lp lb sc q] [] pos) (LamX.tLam TL (TMet X.K) t) := by
  obtain ⟨fd, D⟩ := T.d_w_met
  obtain ⟨oc, od, dV, kV, doc, pm, an, cdv, ct, osl, rfl, lk, hcd, _, _⟩ := D.F.ex
  exact LamX.pe_lamcall hg D.g D.F.kp lk hcd D.b (Ng := ["_law_ask", "e"]) sc_w_met rfl (.inl rfl) (met_gives T) TB hcode hmT hu hr L hdef hbind hbody
section
variable {K : PySem.W.Frag} {σ : L2.St} {H : Hp} {Q : VK}
theorem g_met {TL : List (Addr × Str)} {t : XK → TE} (hT : LamX.Tabs TL H) (h : ∀ H1, LamX.ExtN H H1 → LamX.Tabs TL H1 → t (ErrW K Q) σ H1 fun v H2 => NewT [.str "told", v] H2 Q) : LamX.tLam TL (TMet K) t σ H Q := ⟨hT, h⟩
end
/-- no tables among these -/
def NoTb (G : Hp) : Prop := ∀ b ps, G b ≠ some (.tbl ps)
theorem NoTb.ex {G H H1 : Hp} (n : NoTb G) (e : Ex G H) (x : LamX.ExtN H H1) : Ex G H1 := fun b o h => x b o (e b o h) fun ps z => n b ps (z ▸ h)
/-- all but the tables -/
def noTb (H : Hp) : Hp := fun b => match H b with
  | some (.tbl _) => none
  | o => o
theorem noTb_no (H : Hp) : NoTb (noTb H) := fun b ps h => by
  unfold noTb at h
  split at h
  · cases h
  · rename_i o hn
    exact hn ps h
theorem noTb_of {H : Hp} {b : Addr} {o : HO} (h : H b = some o) (n : ∀ ps, o ≠ .tbl ps) : noTb H b = some o := by
  unfold noTb
  split
  · rename_i ps e
    rw [h] at e
    exact absurd (Option.some.inj e) (n ps)
  · exact h
theorem noTb_ex {H : Hp} : Ex (noTb H) H := fun b o h => by
  unfold noTb at h
  split at h
  · cases h
  · exact h
theorem noTb_to {H H1 : Hp} (x : LamX.ExtN H H1) : Ex (noTb H) H1 := NoTb.ex (noTb_no H) noTb_ex x
theorem tabs_exB {TL : List (Addr × Str)} {S : List Addr} {H H' : Hp} (t : LamX.Tabs TL H) (e : ExB S H H') (hs : LsS S H) : LamX.Tabs TL H' := fun p hp => by
  obtain ⟨ps, h1, h2, h3⟩ := t p hp
  have nS : ∀ b o, H b = some o → (∀ xs, o ≠ .lst xs) → H' b = some o := fun b o h n => e b o (fun z => by
    obtain ⟨xs, hx⟩ := hs b z
    rw [h] at hx
    exact n xs (Option.some.inj hx)) h
  refine ⟨ps, nS _ _ h1 (fun xs z => by cases z), h2, fun pos cv hc => ?_⟩
  obtain ⟨c, e1, e2⟩ := h3 pos cv hc
  exact ⟨c, e1, nS _ _ e2 fun xs z => by
    unfold LamX.CodeO at z
    cases z⟩
theorem Fr.lam {G H H1 : Hp} {a c : Addr} {n : Nat} (f : Fr G H a c n) (hn : NoTb G) (x : LamX.ExtN H H1) : Fr G H1 a c n := by
  obtain ⟨h0, r, k, m, cs, h1, h2, h3⟩ := f.st
  exact ⟨hn.ex f.ex x, f.ga, f.gc, h0, r, k, m, cs, x _ _ h1 (fun ps z => by cases z), x _ _ h2 (fun ps z => by cases z), h3⟩
theorem Fr.tabs {TL : List (Addr × Str)} {H H' : Hp} {a c : Addr} {n m : Nat} (t : LamX.Tabs TL H) (e : ExB [a, c] H H') (s : StA H a c n) : LamX.Tabs TL H' := tabs_exB t e s.ls
section
variable {P : Program} {w : World} {K : PySem.W.Frag} {mg : Str → Option Value} {base : Heap} {k : Nat} {x : Str} {ps N : List Str} {sp : Sp} {st : Stmt}
/-- the def's own code object is told -/
theorem keptC (D : ∃ fd, DefAt K mg x st ps fd) (S : FnScope N ps (defScope st)) (len : ∀ vs H Q E, sp vs H Q E → vs.length = ps.length)
    (hbody : ∀ (A : Around) (outer : List Env) (s : Shared) (H : Hp) (vs : List V) (Q : VK) (E : XK), Room k (A.deeper (envOfC x (defScope st) s.heap.objs.size (He.ga K x) (.ref (He.cT K (x, none)).1))) → sp vs H Q E →
      ∃ t, PSs (cxOf CX0 P w K mg base N x (defScope st) (He.ga K x) (.ref (He.cT K (x, none)).1) A outer s H E).nox (defBody st) t ∧ t { nx := fun _ H' => Q .non H', rt := Q } (start N vs) H) : Kept P w K mg base CX0 (k + 1) x ps sp := by
  obtain ⟨fd, D⟩ := D
  refine ⟨st, fd, D, ?_⟩
  obtain ⟨oc, od, dV, kV, doc, pm, an, cdv, ct, osl, rfl, lk, hcd, _, _⟩ := D.F.ex
  obtain ⟨c, rfl⟩ := He.codeIn_ref hcd
  have e : (He.cT K (x, none)).1 = c := He.codeOf_eq (p := (x, none)) lk rfl
  refine fn_of lk hcd S len fun A outer s H vs Q E hr h => ?_
  rw [← e] at hr ⊢
  obtain ⟨t, ht, hq⟩ := hbody A outer s H vs Q E hr h
  exact ⟨t, ht.nox, hq⟩
end
end Tk
namespace Tk
open PySem PySem.Spec PyProof.Rows L2
theorem vals_app {xs ys : List V} {us ws : List Value} (h : Vals xs us) (h2 : Vals ys ws) : Vals (xs ++ ys) (us ++ ws) := h.append h2
theorem vals_rev : ∀ {xs : List V} {us : List Value}, Vals xs us → Vals xs.reverse us.reverse
  | _, _, .nil => .nil
  | _, _, .cons h t => by
    rw [List.reverse_cons, List.reverse_cons]
    exact (vals_rev t).append (.cons h .nil)
/-- every parameter by keyword, the last first -/
theorem FunD.back {K : PySem.W.Frag} {x q : Str} {params : Arguments} {body : List Stmt} {scope : Scope} {f : Addr} {fd : FuncData} {ps ks : List Str} (F : FunD K x q params body scope [] [] f fd)
    (h : ∀ (kV doc pm : Value) (an : Option Addr) (cdv ct : Value) (ws : List Value), ws.length = ks.length → bindArgs (PySem.W.fnOf x q params body scope .none kV doc pm an cdv ct) ⟨[], ks.zip ws⟩ = pure (ps.zip ws.reverse)) : KBn K fd ps 0 ks (fun _ ws => ws.reverse) (fun _ zs => zs.reverse) := by
  obtain ⟨oc, od, dV, kV, doc, pm, an, cdv, ct, osl, rfl, lk, hcd, hD, hK⟩ := F.ex
  rcases hD with ⟨_, rfl⟩ | ⟨e, _⟩
  · refine ⟨fun s us ws _ l1 l2 => ?_, fun _ r => vals_rev r⟩
    cases us with
    | nil => exact .of_eq (h kV doc pm an cdv ct ws l2)
    | cons => simp at l1
  · exact absurd rfl e
/-- its reading -/
def tBack (sp : Sp) (m : Nat) (E : XK) (tk : TA) : TE := fun σ H Q => tk σ H fun zs H1 => zs.length = m ∧ sp zs.reverse H1 Q E
def KwB (K : PySem.W.Frag) (mg : Str → Option Value) (x : Str) (ps ks : List Str) : Prop := ∀ st fd, DefAt K mg x st ps fd → KBn K fd ps 0 ks (fun _ ws => ws.reverse) (fun _ zs => zs.reverse)
section
variable {X : Cx} {CX : CXT} {k : Nat} {x : Str} {ps ks : List Str} {sp : Sp} {E : XK} {p pos : Pos} {kws : List Keyword} {tk : TA}
theorem pe_ck (G : Kept X.prog X.w X.K X.mg X.base CX k x ps sp) (B : ∃ st, (∃ fd, DefAt X.K X.mg x st ps fd) ∧ ∀ (kV doc pm : Value) (an : Option Addr) (cdv ct : Value) (ws : List Value), ws.length = ks.length → bindArgs (PySem.W.fnOf x x (defArgs st) (defBody st) (defScope st) .none kV doc pm an cdv ct) ⟨[], ks.zip ws⟩ = pure (ps.zip ws.reverse))
    (hr : Room k X.A) (hx : Passes CX X E) (hkw : PK X kws tk) (hg : Gl X x := by rfl) (hall : (backToKw pos (keywordEach kws X.env)).all (·.1.isSome) = true := by rfl) (hks : (backToKw pos (keywordEach kws X.env)).filterMap (·.1) = ks := by rfl)
    (hdb : (x == ("__debug__" : Str)) = false := by decide)
    (hpl : ((backTo pos (starEach [] X.env)).any (·.1) || (backToKw pos (keywordEach kws X.env)).any (·.1.isNone)) = false := by rfl) :
    PE X (.Call (.Name x p) [] kws pos) (tBack sp ks.length E tk) := by
  obtain ⟨st0, fd0, D0, F⟩ := G
  obtain ⟨st, ⟨fd, D⟩, hb⟩ := B
  have e : fd = fd0 := by
    obtain ⟨oc, od, dV, kV, doc, pm, an, cdv, ct, osl, _, lk, _⟩ := D.F.ex
    obtain ⟨oc2, od2, _, _, _, _, _, _, _, osl2, _, lk2, _⟩ := D0.F.ex
    rw [lk] at lk2
    cases lk2
    rfl
  subst e
  have KB := FunD.back D.F hb
  refine ⟨fun pins s σ H Q I h => ?_⟩
  refine wpAny_Call_Name_kw (ld_glob I hg D.g ?_ hdb)
  refine PySem.W.callWith_KW0 (h₀ := X.base) I.ok.mod.kin D.F.kp hall ?_ hpl
  refine thn (hkw.run pos pins s σ H _ I h) fun ws s2 ⟨zs, H2, I2, rz, l2, q2⟩ => ⟨I2.kIn, ?_⟩
  rw [hks]
  exact run_fnN F hr KB hx I2 .nil rz rfl l2 q2
end
theorem KW_ways_to {K : PySem.W.Frag} {mg : Str → Option Value} (T : Txt K mg) : ∃ st, (∃ fd, DefAt K mg "ways_to" st ["book", "heap", "option"] fd) ∧ ∀ (kV doc pm : Value) (an : Option Addr) (cdv ct : Value) (ws : List Value), ws.length = (["option", "heap", "book"] : List Str).length →
    bindArgs (PySem.W.fnOf "ways_to" "ways_to" (defArgs st) (defBody st) (defScope st) .none kV doc pm an cdv ct) ⟨[], (["option", "heap", "book"] : List Str).zip ws⟩ = pure ((["book", "heap", "option"] : List Str).zip ws.reverse) := by
  refine ⟨_, T.d_ways_to, fun kV doc pm an cdv ct ws h => ?_⟩
  match ws, h with
  | [a, b, c], _ => rfl
theorem KW_heaps_from {K : PySem.W.Frag} {mg : Str → Option Value} (T : Txt K mg) : ∃ st, (∃ fd, DefAt K mg "heaps_from" st ["book", "option", "most"] fd) ∧ ∀ (kV doc pm : Value) (an : Option Addr) (cdv ct : Value) (ws : List Value), ws.length = (["most", "option", "book"] : List Str).length →
    bindArgs (PySem.W.fnOf "heaps_from" "heaps_from" (defArgs st) (defBody st) (defScope st) .none kV doc pm an cdv ct) ⟨[], (["most", "option", "book"] : List Str).zip ws⟩ = pure ((["book", "option", "most"] : List Str).zip ws.reverse) := by
  refine ⟨_, T.d_heaps_from, fun kV doc pm an cdv ct ws h => ?_⟩
  match ws, h with
  | [a, b, c], _ => rfl
theorem KW_ends {K : PySem.W.Frag} {mg : Str → Option Value} (T : Txt K mg) : ∃ st, (∃ fd, DefAt K mg "ends" st ["book", "most"] fd) ∧ ∀ (kV doc pm : Value) (an : Option Addr) (cdv ct : Value) (ws : List Value), ws.length = (["most", "book"] : List Str).length →
    bindArgs (PySem.W.fnOf "ends" "ends" (defArgs st) (defBody st) (defScope st) .none kV doc pm an cdv ct) ⟨[], (["most", "book"] : List Str).zip ws⟩ = pure ((["book", "most"] : List Str).zip ws.reverse) := by
  refine ⟨_, T.d_ends, fun kV doc pm an cdv ct ws h => ?_⟩
  match ws, h with
  | [a, b], _ => rfl
theorem g_back {sp : Sp} {m : Nat} {E : XK} {tk : TA} {σ : L2.St} {H : Hp} {Q : VK} (h : tk σ H fun zs H1 => zs.length = m ∧ sp zs.reverse H1 Q E) : tBack sp m E tk σ H Q := h
end Tk
namespace Tk
open PySem PySem.Spec PyProof.Rows L2
open Evl (Ex ex_l ex_t ex_rd sq_of st_of fresh_back)
/-- a promise kept where no repr is under way -/
structure FnG (P : Program) (w : World) (K : PySem.W.Frag) (mg : Str → Option Value) (base : Heap) (k : Nat) (f : Addr) (fd : FuncData) (ps : List Str) (sp : Sp) : Prop where
  len : ∀ vs H Q E, sp vs H Q E → vs.length = ps.length
  run : ∀ (A : Around) (outer : List Env) (s : Shared) (H : Hp) (args : Args) (us : List Value) (vs : List V) (Q : VK) (E : XK), Room k A → A.guards = some [] → Env0 P w K mg base A outer s H → BindsTo s fd args (ps.zip us) → Vals vs us → sp vs H Q E →
    codeAny (model P w) A (.call (.ref f) args) (CR CX0 outer P w H s Q E) s
def KeptG (P : Program) (w : World) (K : PySem.W.Frag) (mg : Str → Option Value) (base : Heap) (k : Nat) (x : Str) (ps : List Str) (sp : Sp) : Prop := ∃ st fd, DefAt K mg x st ps fd ∧ FnG P w K mg base k (He.ga K x) fd ps sp
section
variable {P : Program} {w : World} {K : PySem.W.Frag} {mg : Str → Option Value} {base : Heap} {k : Nat} {x : Str} {ps N : List Str} {sp : Sp} {st : Stmt}
theorem keptG (D : ∃ fd, DefAt K mg x st ps fd) (S : FnScope N ps (defScope st)) (len : ∀ vs H Q E, sp vs H Q E → vs.length = ps.length)
    (hbody : ∀ (A : Around) (outer : List Env) (s : Shared) (H : Hp) (vs : List V) (Q : VK) (E : XK), Room k (A.deeper (envOfC x (defScope st) s.heap.objs.size (He.ga K x) (.ref (He.cT K (x, none)).1))) → A.guards = some [] → sp vs H Q E →
      ∃ t, PSs (cxOf CX0 P w K mg base N x (defScope st) (He.ga K x) (.ref (He.cT K (x, none)).1) A outer s H E).nox (defBody st) t ∧ t { nx := fun _ H' => Q .non H', rt := Q } (start N vs) H) : KeptG P w K mg base (k + 1) x ps sp := by
  obtain ⟨fd, D⟩ := D
  refine ⟨st, fd, D, len, ?_⟩
  obtain ⟨oc, od, dV, kV, doc, pm, an, cdv, ct, osl, rfl, lk, hcd, _, _⟩ := D.F.ex
  obtain ⟨c, rfl⟩ := He.codeIn_ref hcd
  have e : (He.cT K (x, none)).1 = c := He.codeOf_eq (p := (x, none)) lk rfl
  intro A outer s H args us vs Q E hr hG e0 hb hv h
  refine LamX.run_ofS lk hcd S hr e0 hb hv (len _ _ _ _ h) fun hr' => ?_
  rw [← e] at hr' ⊢
  obtain ⟨t, ht, hq⟩ := hbody A outer s H vs Q E hr' hG h
  exact ⟨t, ht.nox, hq⟩
end
section
variable {X : Cx} {k : Nat} {x : Str} {ps : List Str} {sp : Sp} {E : XK} {p pos : Pos} {e : Expr} {es : List Expr} {t : TA}
theorem pe_cG (G : KeptG X.prog X.w X.K X.mg X.base k x ps sp) (hr : Room k X.A) (hG : X.A.guards = some []) (hx : Passes CX0 X E) (ha : PA X (e :: es) t) (hg : Gl X x := by rfl) (hdb : (x == ("__debug__" : Str)) = false := by decide)
    (he : starEach (e :: es) X.env = (false, eval e X.env) :: starEach es X.env := by rfl) (hpl : (backTo pos (starEach es X.env)).any (·.1) = false := by rfl) : PE X (.Call (.Name x p) (e :: es) [] pos) (tCall sp [] E t) := by
  obtain ⟨st, fd, D, F⟩ := G
  refine ⟨fun pins s σ H Q I h => ?_⟩
  refine wpAny_Call_Name_kw (ld_glob I hg D.g ?_ hdb)
  refine PySem.W.callWith_K (h₀ := X.base) I.ok.mod.kin D.F.kp (thn (ha.run pos pins s σ H _ I h) fun us s1 ⟨vs, H1, I1, r, q⟩ => ⟨I1.kIn, ?_⟩) he hpl
  replace q : sp (vs ++ []) H1 Q E := q
  rw [List.append_nil] at q
  have hl : us.length = ps.length := by rw [← r.length]; exact F.len _ _ _ _ q
  have hb := D.b s1 us I1.kIn (by rw [List.append_nil]; exact hl)
  rw [List.append_nil] at hb
  refine wpAny_call (codeAny_mono (F.run X.A X.stack s1 H1 ⟨us, []⟩ us vs Q E hr hG I1.env0 hb r q) fun r s' hq => ?_)
  cases r with
  | error e => exact hx pins σ H1 s1 e s' I1 hq
  | ok fl =>
    cases fl with
    | ret u => exact I1.after hq
    | next => exact False.elim hq
    | brk => exact False.elim hq
    | cont => exact False.elim hq
end
/-! ### repr -/
/-- data that repr shows: no dicts inside; or the empty dict -/
def Shown (K : PySem.W.Frag) (H : Hp) (v : V) (x : Str) : Prop := (∃ d, Dp K H v d ∧ d.showable = true ∧ d.hasDict = false ∧ d.shown.length ≤ sizeLine ∧ d.depth ≤ 60 ∧ x = d.shown) ∨ (∃ a, v = .ref a ∧ H a = some (.dK []) ∧ x = (PyData.dict []).shown)
def rRepr (K : PySem.W.Frag) : List V → Hp → VK → Prop := fun xs H Q => ∃ v x, xs = [v] ∧ Shown K H v x ∧ Q (.str x) H
theorem cr_repr (K : PySem.W.Frag) {X : Cx} (hG : X.A.guards = some []) (hu : X.A.units + 65 < cLine) (hK : X.K = K := by rfl) : CallR X (.builtin "repr") (rRepr K) := by
  subst hK
  intro pins s σ H xs us Q I r h
  obtain ⟨v, x, rfl, h, q⟩ := h
  obtain ⟨u, rfl, r1⟩ : ∃ u, us = [u] ∧ RelV v u := by
    cases r with
    | cons a t =>
      cases t
      exact ⟨_, rfl, a⟩
  rcases h with ⟨d, hd, hs, hn, hz, hdp, rfl⟩ | ⟨a, rfl, ha, rfl⟩
  · cases hd with
    | non =>
      cases r1
      exact PySem.P.repr_of_none ⟨.str _, H, I.tok _, ⟨_, rfl⟩, q⟩
    | bl b =>
      cases r1
      refine PySem.P.repr_of_bool ⟨.str _, H, I.tok _, ⟨_, rfl⟩, ?_⟩
      cases b <;> exact q
    | int i =>
      obtain ⟨t, rfl⟩ := r1
      exact PySem.P.repr_of_int (of_decide_eq_true hs) ⟨.str _, H, I.tok _, ⟨_, rfl⟩, q⟩
    | str y =>
      obtain ⟨t, rfl⟩ := r1
      exact PySem.P.repr_of_str ⟨.str _, H, I.tok _, ⟨_, rfl⟩, q⟩ hz
    | lst h1 h2 =>
      cases r1
      obtain ⟨as, rd⟩ := Dp.reads I _ _ _ (.lst h1 h2) rfl
      exact repr_of_reads' rd hs (PyData.noDict_hsm hn) hG (by omega) (fun _ _ e => e) (fun h' u tk hk => ⟨.str _, H, I.kept hk, ⟨_, rfl⟩, q⟩) hz
    | tup h1 h2 =>
      cases r1
      obtain ⟨as, rd⟩ := Dp.reads I _ _ _ (.tup h1 h2) rfl
      exact repr_of_reads' rd hs (PyData.noDict_hsm hn) hG (by omega) (fun _ _ e => e) (fun h' u tk hk => ⟨.str _, H, I.kept hk, ⟨_, rfl⟩, q⟩) hz
  · cases r1
    obtain ⟨hz, hS, vs, rk, o, es, ep, h1, h2, h3, h4, h5, h6⟩ := I.hok a _ ha
    cases rk
    have e : es.toList = [] := by
      generalize es.toList = l at h5
      cases h5
      rfl
    have rd : Reads s.heap (.ref a) (.dict []) (a :: [] ++ []) := .dict h1 h2.1 h3 (by rw [e]; exact .nil) (by rw [e]; exact .nil)
    refine repr_of_reads' rd rfl (fun _ z => ?_) hG (by show _ + (PyData.depth (.dict []) + 1) < _; have : PyData.depth (.dict []) ≤ 60 := by decide
                                                        omega) (fun _ _ e => e) (fun h' u tk hk => ⟨.str _, H, I.kept hk, ⟨_, rfl⟩, q⟩) (by decide)
    rw [List.append_nil, List.mem_singleton] at z
    rw [z] at hS
    simp at hS
end Tk
namespace Tk
open PySem PySem.Spec PyProof.Rows L2 LamX
/-- what is tracked as the law begins: the empty tables, and the script where the head does not know it -/
noncomputable def H00 (K : PySem.W.Frag) (T : List Addr) (a : Addr) (vs : List Value) (ns : List Int) : Hp := fun b =>
  if b ∈ T then some (.tbl #[]) else if b = a then (match K.lookup a with
    | some _ => none
    | none => some (.frz { cls := .type "list", data := .seq vs.toArray } (.lst (ns.map V.int)))) else none
section
variable {K : PySem.W.Frag} {T : List Addr} {a : Addr} {vs : List Value} {ns : List Int}
theorem h00_T {b : Addr} (h : b ∈ T) : H00 K T a vs ns b = some (.tbl #[]) := if_pos h
theorem h00_a (h : a ∉ T) (hk : K.lookup a = none) : H00 K T a vs ns a = some (.frz { cls := .type "list", data := .seq vs.toArray } (.lst (ns.map V.int))) := by
  unfold H00
  rw [if_neg h, if_pos rfl, hk]
theorem h00_cases (b : Addr) : H00 K T a vs ns b = none ∨ (b ∈ T ∧ H00 K T a vs ns b = some (.tbl #[])) ∨ (b = a ∧ b ∉ T ∧ K.lookup a = none ∧ H00 K T a vs ns b = some (.frz { cls := .type "list", data := .seq vs.toArray } (.lst (ns.map V.int)))) := by
  by_cases h : b ∈ T
  · exact .inr (.inl ⟨h, h00_T h⟩)
  · by_cases e : b = a
    · subst e
      cases hk : K.lookup b with
      | none => exact .inr (.inr ⟨rfl, h, rfl, h00_a h hk⟩)
      | some o =>
        refine .inl ?_
        unfold H00
        rw [if_neg h, if_pos rfl, hk]
    · refine .inl ?_
      unfold H00
      rw [if_neg h, if_neg e]
end
theorem end_call {P : Program} {w : World} {K : PySem.W.Frag} {mg mb : Str → Option Value} {k : Nat} {fa a : Addr} {cs : List (Addr × Addr)} {fd : FuncData} {x : Str} {sp : Sp} {s : Shared} {vs : List Value} {ns : List Int}
    (kin : K.In s.heap) (gl : s.heap.Ns mainGlobals mg) (bl : s.heap.Ns builtinsNs mb) (bb : ∀ x : Str, x ≠ "__name__" → mb x = bootBuiltins x) (nl : s.heap.NoLimit) (ge : s.gens = #[])
    (te : ∀ p ∈ cs, s.heap.get? p.2 = some { cls := .none, data := .fields #[] }) (tk : ∀ p ∈ cs, K.lookup p.2 = none) (co : ∀ p ∈ cs, PySem.W.CodeHd s.heap p.1 p.2)
    (bm : ∃ (m : Addr) (o : Obj), mg "__builtins__" = some (.ref m) ∧ m ≠ builtinsNs ∧ s.heap.get? m = some o ∧ o.cls = .type "module" ∧ o.dict = some builtinsNs ∧ o.data = .plain)
    (sa : s.heap.get? a = some { cls := .type "list", data := .seq vs.toArray }) (ia : IntsAre vs ns) (la : ns.length ≤ sizeLine) (ro : Room k callerA)
    (F : ∀ base : Heap, K.In base → base.Ns mainGlobals mg → (∀ p ∈ cs, TabB base mg p.1 p.2) → FnG P w K mg base k fa fd [x] sp) (bi : ∀ (s : Shared) (u : Value), BindsTo s fd ⟨[u], []⟩ [(x, u)])
    (hs : ∀ H : Hp, (∀ p ∈ cs, H p.2 = some (.tbl #[])) → SqL K H a (ns.map V.int) → sp [.ref a] H (fun v _ => v = .bl true) fun _ _ _ => False) :
    codeAny (model P w) callerA (.call (.ref fa) ⟨[.ref a], []⟩) (fun r s' => r = .ok (.ret (.bool true)) ∧ OldK s.heap s'.heap ∧ s'.os = s.os ∧ AllBare s'.gens) s := by
  obtain ⟨T, eT⟩ : ∃ T, T = cs.map (·.2) := ⟨_, rfl⟩
  have inT : ∀ p ∈ cs, p.2 ∈ T := fun p hp => by rw [eT]; exact List.mem_map_of_mem hp
  have ofT : ∀ b ∈ T, ∃ p ∈ cs, p.2 = b := fun b hb => by
    rw [eT] at hb
    obtain ⟨p, h1, h2⟩ := List.mem_map.mp hb
    exact ⟨p, h1, h2⟩
  have tab : ∀ b ∈ T, s.heap.get? b = some { cls := .none, data := .fields #[] } := fun b hb => by
    obtain ⟨p, h1, h2⟩ := ofT b hb
    rw [← h2]
    exact te p h1
  have aT : a ∉ T := fun z => by
    have q := (tab a z).symm.trans sa
    cases congrArg Obj.data (Option.some.inj q)
  obtain ⟨H, eH⟩ : ∃ H, H = H00 K T a vs ns := ⟨_, rfl⟩
  have cas := fun b => h00_cases (K := K) (T := T) (a := a) (vs := vs) (ns := ns) b
  rw [← eH] at cas
  have HT : ∀ b ∈ T, H b = some (.tbl #[]) := fun b hb => by rw [eH]; exact h00_T hb
  have rv := vals_ints ia
  -- an object of another form is not tracked
  have off : ∀ {b : Addr} {o : Obj}, s.heap.get? b = some o → (∀ us n, o.data ≠ .seq us n) → o.data ≠ .fields #[] → H b = none := fun {b o} e h1 h2 => by
    rcases cas b with z | ⟨z, _⟩ | ⟨rfl, _⟩
    · exact z
    · rw [tab b z] at e
      cases e
      exact absurd rfl h2
    · rw [sa] at e
      cases e
      exact absurd rfl (h1 _ _)
  have ns_ : ∀ {b : Addr} {m : Str → Option Value}, s.heap.Ns b m → (hidT s.heap H).Ns b m := fun {b m} h => by
    obtain ⟨o, es, ep, e, d, r⟩ := h
    refine ⟨o, es, ep, hidT_get e (off e ?_ ?_), d, r⟩ <;> (try intro us n) <;> rw [d] <;> intro z <;> cases z
  have kb : K.In (hidT s.heap H) := fun b o e => by
    refine hidT_get (kin b o e) ?_
    rcases cas b with z | ⟨z, _⟩ | ⟨rfl, _, z, _⟩
    · exact z
    · obtain ⟨p, h1, h2⟩ := ofT b z
      rw [← h2, tk p h1] at e
      cases e
    · rw [z] at e
      cases e
  have nb : ∀ p ∈ cs, mainGlobals ≠ p.2 := fun p hp z => by
    obtain ⟨o, es, ep, e, d, _⟩ := gl
    rw [z, te p hp] at e
    cases e
    cases d
  have tb : ∀ p ∈ cs, TabB (hidT s.heap H) mg p.1 p.2 := fun p hp => by
    refine ⟨?_, ?_, nb p hp⟩
    · obtain ⟨o, us, f1, f2, f3, f4, f5, f6, f7, e, r1, r2, r3, r⟩ := co p hp
      refine ⟨o, us, f1, f2, f3, f4, f5, f6, f7, hidT_get e (off e ?_ ?_), r1, r2, r3, r⟩
      · intro us n z
        rw [r2] at z
        cases z
      · intro z
        rw [r2] at z
        cases z
        simp at r3
    · obtain ⟨m, o, b1, b2, b3, b4, b5, b6⟩ := bm
      refine ⟨m, o, b1, b2, fun z => ?_, fun z => ?_, hidT_get b3 (off b3 ?_ ?_), b4, b5, b6⟩
      · obtain ⟨o2, es, ep, e, d, _⟩ := gl
        rw [z] at b3
        rw [b3] at e
        cases e
        rw [b6] at d
        cases d
      · rw [z, te p hp] at b3
        cases b3
        cases b6
      · intro us n y
        rw [b6] at y
        cases y
      · intro y
        rw [b6] at y
        cases y
  have hok : HOk P w H s.heap := fun b u e => by
    rcases cas b with z | ⟨z, z2⟩ | ⟨rfl, _, _, z2⟩
    · rw [z] at e
      cases e
    · rw [z2] at e
      cases e
      exact tab b z
    · rw [z2] at e
      cases e
      exact ⟨sa, by rw [List.length_map]; exact la, vs, _, rv, sa⟩
  have hsq : SqL K H a (ns.map V.int) := by
    cases hk : K.lookup a with
    | none => exact .inl (.inr ⟨_, by rw [eH]; exact h00_a aT hk⟩)
    | some o =>
      have e := kin a o hk
      rw [sa] at e
      cases e
      exact .inr ⟨_, vs.toArray, _, hk, rfl, rfl, rfl, by rw [List.size_toArray, ia.length]; exact la, by simpa using rv⟩
  obtain ⟨lc, l1, l2⟩ := nl
  have e0 : Env0 P w K mg (hidT s.heap H) callerA [] s H := ⟨rfl, ⟨kb, ns_ gl, ⟨mb, ns_ bl, bb⟩, lc, ns_ l1, l2⟩, fun b o e => of_hidT e, Nat.le_of_eq (hidT_size _ _), trivial, fun b hb => absurd (show b ∈ ([] : List Addr) from hb) (by simp), hok, .of_eq ge⟩
  have run := (F _ kb (ns_ gl) tb).run callerA [] s H ⟨[.ref a], []⟩ [.ref a] [.ref a] _ _ ro rfl e0 (bi s (.ref a)) (.cons rfl .nil) (hs H (fun p hp => HT _ (inT p hp)) hsq)
  refine codeAny_mono run fun r s' h => ?_
  match r, h with
  | .error e, h => exact False.elim h
  | .ok .next, h => exact False.elim h
  | .ok .brk, h => exact False.elim h
  | .ok .cont, h => exact False.elim h
  | .ok (.ret u), h =>
    obtain ⟨v, H', os, bare, un, hok', rr, q⟩ := h
    have q' : v = .bl true := q
    subst q'
    obtain rfl : u = Value.bool true := rr
    have keep : ∀ b o, b ∉ T → s.heap.get? b = some o → s'.heap.get? b = some o := fun b o nb e => by
      rcases cas b with z | ⟨z, _⟩ | ⟨_, _, _, z⟩
      · exact un.keep b o e z (fun y => absurd (show b ∈ ([] : List Addr) from y) (by simp)) (by simp)
      · exact absurd z nb
      · have z2 := hok' b _ (un.frzs b _ _ z)
        have z1 := hok b _ z
        obtain ⟨y1, _⟩ := z1
        obtain ⟨y2, _⟩ := z2
        rw [e] at y1
        cases y1
        exact y2
    have grew : ∀ b ∈ T, ∃ more : Array Value, s'.heap.get? b = some { cls := .none, data := .fields more } := fun b hb => by
      obtain ⟨more, z⟩ := un.tbls b #[] (HT b hb)
      exact ⟨_, hok' b _ z⟩
    refine ⟨rfl, ⟨fun b o e => ?_, fun b o e => ?_⟩, os, bare⟩
    · by_cases hb : b ∈ T
      · obtain ⟨p, hp, rfl⟩ := ofT b hb
        obtain ⟨more, hm⟩ := grew _ hb
        rw [te p hp] at e
        cases e
        exact .inr (.inl ⟨((co p hp).tab (te p hp)).isCodeTable, rfl, #[], more, rfl, by rw [Array.empty_append]; exact hm⟩)
      · exact .inl (keep b o hb e)
    · by_cases hb : b ∈ T
      · obtain ⟨more, hm⟩ := grew b hb
        exact ⟨_, hm⟩
      · exact ⟨o, keep b o hb e⟩
theorem walk_ofG {l : PySem.W.OpenLaw} {n k : Nat} {q : Program} {loose : List Str} {XP : (Str → Option Value) → Heap → Prop} {YP : World → Heap → Prop} {d : DefRec} {x : Str} (most : l.most = some n) (small : n ≤ sizeLine) (plain : d.params.defaults = []) (ro : Room k callerA)
    (F : ∀ (w : World) (mg : Str → Option Value) (fa : Addr) (h : Heap), YP w h → h.Ns mainGlobals mg → mg d.name = some (.ref fa) → ∃ (K : PySem.W.Frag) (fd : FuncData) (cs : List (Addr × Addr)) (sp : Sp), K.In h ∧
      (∀ p ∈ cs, h.get? p.2 = some { cls := .none, data := .fields #[] }) ∧ (∀ p ∈ cs, K.lookup p.2 = none) ∧ (∀ p ∈ cs, PySem.W.CodeHd h p.1 p.2) ∧ (∀ (s : Shared) (u : Value), BindsTo s fd ⟨[u], []⟩ [(x, u)]) ∧
      (∀ (H : Hp) (a : Addr) (ns : List Int), ns.length ≤ n → (∀ p ∈ cs, H p.2 = some (.tbl #[])) → SqL K H a (ns.map V.int) → sp [.ref a] H (fun v _ => v = .bl true) fun _ _ _ => False) ∧
      ∀ base : Heap, K.In base → base.Ns mainGlobals mg → (∀ p ∈ cs, TabB base mg p.1 p.2) → FnG l.prog w K mg base k fa fd [x] sp) :
    PySem.W.WalkO q loose XP YP l.row.toRowW d [] (fun f vs => PySem.call f vs) := by
  refine Att.attach_callB most plain fun w s0 s1 mg mb fa o pm cd doc a vs ns G Y ho hd hcd hmg hobj hints hlen hbits hg => ?_
  obtain ⟨K, fd, cs, sp, kin, h1, h2, h3, h4, h5, h6⟩ := F w mg fa _ Y G.T.g hmg
  exact end_call kin G.T.g G.T.b G.T.builtins G.T.nolimit hg h1 h2 h3 G.T.bmain hobj hints (Nat.le_trans hlen small) ro h6 h4 fun H y z => h5 H a ns hlen y z
end Tk
namespace Tk
open PySem PySem.Spec PyProof.Rows L2
open Evl (Ex ex_l ex_t ex_rd sq_of st_of fresh_back)
/-! ### what does not see list or tuple -/
mutual
theorem showable_strip : ∀ d : PyData, (strip d).showable = d.showable
  | .none | .bool _ | .int _ | .str _ | .dict _ => by simp only [strip]
  | .list xs | .tuple xs => by simp only [strip, PyData.showable, showableAll_strip xs]
theorem showableAll_strip : ∀ ds : List PyData, PyData.showableAll (stripAll ds) = PyData.showableAll ds
  | [] => by simp only [stripAll]
  | d :: ds => by simp only [stripAll, PyData.showableAll, showable_strip d, showableAll_strip ds]
end
mutual
theorem hasDict_strip : ∀ d : PyData, (strip d).hasDict = d.hasDict
  | .none | .bool _ | .int _ | .str _ | .dict _ => by simp only [strip]
  | .list xs | .tuple xs => by simp only [strip, PyData.hasDict, hasDictAll_strip xs]
theorem hasDictAll_strip : ∀ ds : List PyData, PyData.hasDictAll (stripAll ds) = PyData.hasDictAll ds
  | [] => by simp only [stripAll]
  | d :: ds => by simp only [stripAll, PyData.hasDictAll, hasDict_strip d, hasDictAll_strip ds]
end
mutual
theorem short_strip (B : Nat) : ∀ d : PyData, (strip d).leavesShort B = d.leavesShort B
  | .none | .bool _ | .int _ | .str _ | .dict _ => by simp only [strip]
  | .list xs | .tuple xs => by simp only [strip, PyData.leavesShort, shortAll_strip B xs]
theorem shortAll_strip (B : Nat) : ∀ ds : List PyData, PyData.leavesShortAll B (stripAll ds) = PyData.leavesShortAll B ds
  | [] => by simp only [stripAll]
  | d :: ds => by simp only [stripAll, PyData.leavesShortAll, short_strip B d, shortAll_strip B ds]
end
mutual
theorem weight_strip : ∀ d : PyData, (strip d).weight = d.weight
  | .none | .bool _ | .int _ | .str _ | .dict _ => by simp only [strip]
  | .list xs | .tuple xs => by simp only [strip, PyData.weight, weightAll_strip xs]
theorem weightAll_strip : ∀ ds : List PyData, PyData.weightAll (stripAll ds) = PyData.weightAll ds
  | [] => by simp only [stripAll]
  | d :: ds => by simp only [stripAll, PyData.weightAll, weight_strip d, weightAll_strip ds]
end
mutual
theorem depth_strip : ∀ d : PyData, (strip d).depth = d.depth
  | .none | .bool _ | .int _ | .str _ | .dict _ => by simp only [strip]
  | .list xs | .tuple xs => by simp only [strip, PyData.depth, depthAll_strip xs]
theorem depthAll_strip : ∀ ds : List PyData, PyData.depthAll (stripAll ds) = PyData.depthAll ds
  | [] => by simp only [stripAll]
  | d :: ds => by simp only [stripAll, PyData.depthAll, depth_strip d, depthAll_strip ds]
end
def smallB (d : PyData) : Bool := d.showable && !d.hasDict && d.leavesShort 2000 && decide (d.weight ≤ 1000) && decide (d.depth ≤ 3)
theorem small_strip {d e : PyData} (h : strip e = strip d) (s : smallB d = true) : smallB e = true := by
  have g : ∀ d, smallB (strip d) = smallB d := fun d => by simp only [smallB, showable_strip, hasDict_strip, short_strip, weight_strip, depth_strip]
  rw [← g e, h, g d]
  exact s
theorem small_shown {K : PySem.W.Frag} {H : Hp} {v : V} {d : PyData} (h : Dp K H v d) (s : smallB d = true) : Shown K H v d.shown := by
  simp only [smallB, Bool.and_eq_true, Bool.not_eq_true', decide_eq_true_eq] at s
  obtain ⟨⟨⟨⟨s1, s2⟩, s3⟩, s4⟩, s5⟩ := s
  refine .inl ⟨d, h, s1, s2, ?_, by omega, rfl⟩
  have q := PyData.shown_le 2000 (by decide) d s3
  rw [sizeLine_eq]
  have : (2000 + 2) * d.weight ≤ (2000 + 2) * 1000 := Nat.mul_le_mul_left _ s4
  omega
/-! ### the odd options -/
def odds : List PyData := [.list [.int 0], .none, .int 5, .str "1", .list [.int 1, .int 1, .int 1], .list [.bool true], .list [.list [.int 1]]]
theorem odds_small : ∀ d ∈ odds, smallB d = true := by decide +kernel
theorem opt_small {o : List Int} (h : OptI o) : smallB (.list (o.map .int)) = true := by
  have one : ∀ i : Int, 1 ≤ i → i ≤ 10 ^ 18 → i.natAbs.log2 < 60 ∧ (Str.ofString (toString i)).length ≤ 1921 := fun i h1 h2 => by
    have hn : i.natAbs < 2 ^ 60 := by
      have : (2 : Nat) ^ 60 = 1152921504606846976 := by decide
      omega
    have hl : i.natAbs.log2 < 60 := (Nat.log2_lt (by omega)).mpr hn
    exact ⟨hl, int_text_len_1921 (by omega)⟩
  have wt : ∀ i : Int, i.natAbs.log2 < 60 → PyData.weight (.int i) ≤ 60 := fun i h => by
    simp only [PyData.weight]
    split <;> omega
  obtain ⟨h2, hb⟩ := h
  match o, h2, hb with
  | [], _, _ => decide +kernel
  | [i], _, hb =>
    obtain ⟨q1, q2⟩ := one i (hb i (by simp)).1 (hb i (by simp)).2
    have q3 := wt i q1
    simp only [smallB, List.map_cons, List.map_nil, PyData.showable, PyData.showableAll, PyData.hasDict, PyData.hasDictAll, PyData.leavesShort, PyData.leavesShortAll, PyData.depth, PyData.depthAll, Bool.and_eq_true, decide_eq_true_eq, PyData.shown]
    refine ⟨⟨⟨⟨⟨by omega, trivial⟩, rfl⟩, decide_eq_true (Nat.le_trans q2 (show 1921 ≤ 2000 by decide)), trivial⟩, ?_⟩, by decide⟩
    simp only [PyData.weight, PyData.weightAll] at q3 ⊢
    omega
  | [i, j], _, hb =>
    obtain ⟨q1, q2⟩ := one i (hb i (by simp)).1 (hb i (by simp)).2
    obtain ⟨r1, r2⟩ := one j (hb j (by simp)).1 (hb j (by simp)).2
    have q3 := wt i q1
    have r3 := wt j r1
    simp only [smallB, List.map_cons, List.map_nil, PyData.showable, PyData.showableAll, PyData.hasDict, PyData.hasDictAll, PyData.leavesShort, PyData.leavesShortAll, PyData.depth, PyData.depthAll, Bool.and_eq_true, decide_eq_true_eq, PyData.shown]
    refine ⟨⟨⟨⟨⟨by omega, by omega, trivial⟩, rfl⟩, decide_eq_true (Nat.le_trans q2 (show 1921 ≤ 2000 by decide)), decide_eq_true (Nat.le_trans r2 (show 1921 ≤ 2000 by decide)), trivial⟩, ?_⟩, by decide⟩
    simp only [PyData.weight, PyData.weightAll] at q3 r3 ⊢
    omega
/-! ### what the odd ones are -/
theorem dp_plain {K : PySem.W.Frag} {H : Hp} {v : V} {d : PyData} (h : Dp K H v d) : Plain K H v := by
  cases h with
  | non => exact .inl (.inl rfl)
  | bl b => exact .inl (.inr (.inl ⟨b, rfl⟩))
  | int i => exact .inl (.inr (.inr (.inl ⟨i, rfl⟩)))
  | str x => exact .inl (.inr (.inr (.inr (.inl ⟨x, rfl⟩))))
  | lst h1 h2 => exact .inr ⟨_, _, rfl, .inl h1⟩
  | tup h1 h2 => exact .inr ⟨_, _, rfl, .inr h1⟩
def okE (d : PyData) : Bool := match d with
  | .int i => decide (0 < i)
  | _ => false
/-- no option, whatever the book is -/
def badB (d : PyData) : Bool := match d with
  | .list ds => !(decide (ds.length ≤ 2) && ds.all okE)
  | .dict _ => false
  | .tuple _ => false
  | _ => true
theorem pos_ok {K : PySem.W.Frag} {H : Hp} {v : V} {d : PyData} (h : Dp K H v d) (p : isPos v = true) : okE (strip d) = true := by
  cases h with
  | int i => exact p
  | non => cases p
  | bl b => cases p
  | str x => cases p
  | lst h1 h2 => cases p
  | tup h1 h2 => cases p
theorem stripAll_map : ∀ ds : List PyData, stripAll ds = ds.map strip
  | [] => by simp only [stripAll, List.map_nil]
  | d :: ds => by simp only [stripAll, List.map_cons, stripAll_map ds]
theorem dpAll_mem {K : PySem.W.Frag} {H : Hp} : ∀ {vs : List V} {ds : List PyData}, DpAll K H vs ds → ∀ x ∈ vs, ∃ d ∈ ds, Dp K H x d
  | _, _, .nil, _, hx => by cases hx
  | _, _, .cons a t, x, hx => by
    rcases List.mem_cons.mp hx with rfl | hx
    · exact ⟨_, List.mem_cons_self, a⟩
    · obtain ⟨d, h1, h2⟩ := dpAll_mem t x hx
      exact ⟨d, List.mem_cons_of_mem _ h1, h2⟩
theorem dpAll_mem2 {K : PySem.W.Frag} {H : Hp} : ∀ {vs : List V} {ds : List PyData}, DpAll K H vs ds → ∀ d ∈ ds, ∃ x ∈ vs, Dp K H x d
  | _, _, .nil, _, hx => by cases hx
  | _, _, .cons a t, x, hx => by
    rcases List.mem_cons.mp hx with rfl | hx
    · exact ⟨_, List.mem_cons_self, a⟩
    · obtain ⟨d, h1, h2⟩ := dpAll_mem2 t x hx
      exact ⟨d, List.mem_cons_of_mem _ h1, h2⟩
theorem bad_b {K : PySem.W.Frag} {H : Hp} {v : V} {d : PyData} (h : Dp K H v d) (b : badB (strip d) = true) : NoOptB K H v := by
  cases h with
  | non => exact .inl (.inl rfl)
  | bl y => exact .inl (.inr (.inl ⟨y, rfl⟩))
  | int i => exact .inl (.inr (.inr (.inl ⟨i, rfl⟩)))
  | str x => exact .inl (.inr (.inr (.inr (.inl ⟨x, rfl⟩))))
  | lst h1 h2 | tup h1 h2 =>
    refine .inr ⟨_, _, rfl, (by first | exact .inl h1 | exact .inr h1), fun x hx => ?_, fun z => ?_⟩
    · obtain ⟨d, _, q⟩ := dpAll_mem h2 x hx
      exact dp_plain q
    · simp only [strip, badB, stripAll_map, List.length_map, Bool.not_eq_true', Bool.and_eq_false_iff, decide_eq_false_iff_not] at b
      rw [dpAll_len h2] at z
      rcases b with b | b
      · exact b z.1
      · refine absurd (List.all_eq_true.mpr fun y hy => ?_) (by rw [b]; simp)
        obtain ⟨e, he, rfl⟩ := List.mem_map.mp hy
        obtain ⟨x, hx, q⟩ := dpAll_mem2 h2 e he
        exact pos_ok q (z.2 x hx)
theorem hp_pos {v : V} (h : isHp v = true) : isPos v = true := by
  cases v with
  | int i =>
    have h := of_decide_eq_true (show decide (1 ≤ i ∧ i ≤ 10 ^ 18) = true from h)
    exact decide_eq_true (show 0 < i by omega)
  | _ => cases h
theorem noopt_b {K : PySem.W.Frag} {H : Hp} {v : V} (h : NoOptB K H v) : NoOpt K H v := by
  rcases h with h | ⟨a, xs, h1, h2, h3, h4⟩
  · exact .inl h
  · exact .inr ⟨a, xs, h1, h2, h3, fun z => h4 ⟨z.1, fun x hx => hp_pos (z.2 x hx)⟩⟩
theorem odds_bad : ∀ d ∈ odds, badB (strip d) = true := by decide +kernel
theorem ints_all {K : PySem.W.Frag} {H : Hp} : ∀ {o : List Int} {vs : List V} {ds : List PyData}, DpAll K H vs ds → stripAll ds = o.map .int → vs = o.map V.int ∧ ds = o.map .int
  | [], _, _, .nil, _ => ⟨rfl, rfl⟩
  | [], _, _, .cons a t, h => by simp [stripAll] at h
  | _ :: _, _, _, .nil, h => by simp [stripAll] at h
  | i :: o, _, _, .cons a t, h => by
    simp only [stripAll, List.map_cons, List.cons.injEq] at h
    obtain rfl := strip_atom h.1 (.inr (.inr (.inl ⟨_, rfl⟩)))
    cases a
    obtain ⟨e1, e2⟩ := ints_all t h.2
    exact ⟨by rw [e1]; rfl, by rw [e2]; rfl⟩
theorem opt_h {K : PySem.W.Frag} {H : Hp} {v : V} {d : PyData} {o : List Int} (h : Dp K H v d) (hs : strip d = strip (.list (o.map .int))) (ho : OptI o) : OptAt K H v o := by
  obtain ⟨es, h1, h2⟩ := strip_list (hs.trans (show strip (.list (o.map PyData.int)) = .list (stripAll (o.map .int)) by simp only [strip]))
  obtain ⟨a, xs, rfl, hx, hall⟩ := dp_seq h h1
  have e : stripAll (o.map PyData.int) = o.map .int := by
    rw [stripAll_map, List.map_map]
    refine List.map_congr_left fun i _ => ?_
    show strip (.int i) = .int i
    simp only [strip]
  obtain ⟨e1, _⟩ := ints_all hall (h2.trans e)
  rw [e1] at hx
  exact ⟨⟨a, rfl, hx⟩, ho⟩
theorem wd_odds : ∀ d ∈ odds, Wd 2 d := by
  intro d hd
  have at_ : ∀ {k : Nat} {d : PyData}, atom d → Wd k d := fun {k d} h => by
    cases k with
    | zero => exact h
    | succ k => exact .inl h
  have int_ : ∀ {k : Nat} {i : Int}, Wd k (.int i) := at_ (.inr (.inr (.inl ⟨_, rfl⟩)))
  simp only [odds, List.mem_cons, List.not_mem_nil, or_false] at hd
  rcases hd with rfl | rfl | rfl | rfl | rfl | rfl | rfl
  · exact .inr ⟨_, .inl rfl, by decide, fun e he => by simp only [List.mem_cons, List.not_mem_nil, or_false] at he; subst he; exact int_⟩
  · exact at_ (.inl rfl)
  · exact int_
  · exact at_ (.inr (.inr (.inr ⟨_, rfl⟩)))
  · exact .inr ⟨_, .inl rfl, by decide, fun e he => by simp only [List.mem_cons, List.not_mem_nil, or_false, or_self] at he; subst he; exact int_⟩
  · exact .inr ⟨_, .inl rfl, by decide, fun e he => by simp only [List.mem_cons, List.not_mem_nil, or_false] at he; subst he; exact at_ (.inr (.inl ⟨_, rfl⟩))⟩
  · exact .inr ⟨_, .inl rfl, by decide, fun e he => by simp only [List.mem_cons, List.not_mem_nil, or_false] at he; subst he; exact .inr ⟨_, .inl rfl, by decide, fun e he => by simp only [List.mem_cons, List.not_mem_nil, or_false] at he; subst he; exact int_⟩⟩
theorem wd_opt {o : List Int} (h : OptI o) : Wd 2 (.list (o.map .int)) := by
  refine .inr ⟨_, .inl rfl, by rw [List.length_map]; have := h.1; omega, fun e he => ?_⟩
  obtain ⟨i, _, rfl⟩ := List.mem_map.mp he
  exact .inl (.inr (.inr (.inl ⟨_, rfl⟩)))
end Tk
namespace Tk
open PySem PySem.Spec PyProof.Rows L2
open Evl (Ex ex_l ex_t ex_rd sq_of st_of fresh_back)
/-! ### the heap without the stream and the tables -/
def gh (a c : Addr) (H : Hp) : Hp := noTb (hid a c H)
theorem gh_of {a c b : Addr} {H : Hp} {o : HO} (h : H b = some o) (n : ∀ ps, o ≠ .tbl ps) (h1 : b ≠ a) (h2 : b ≠ c) : gh a c H b = some o := noTb_of (hid_of h h1 h2) n
theorem gh_ex {a c : Addr} {H : Hp} : Ex (gh a c H) H := fun b o h => hid_ex b o (noTb_ex b o h)
theorem gh_no (a c : Addr) (H : Hp) : NoTb (gh a c H) := noTb_no _
theorem gh_a {a c : Addr} {H : Hp} : gh a c H a = none := by
  unfold gh noTb
  rw [show hid a c H a = none from if_pos (.inl rfl)]
theorem gh_c {a c : Addr} {H : Hp} : gh a c H c = none := by
  unfold gh noTb
  rw [show hid a c H c = none from if_pos (.inr rfl)]
theorem fr_gh {a c : Addr} {n : Nat} {H : Hp} (s : StA H a c n) : Fr (gh a c H) H a c n := ⟨gh_ex, gh_a, gh_c, s⟩
theorem Fr.gh {G H : Hp} {a c : Addr} {n : Nat} (f : Fr G H a c n) (hn : NoTb G) : Ex G (gh a c H) := fun b o h => gh_of (f.ex b o h) (fun ps z => hn b ps (z ▸ h)) (fun z => by rw [z, f.ga] at h; cases h) (fun z => by rw [z, f.gc] at h; cases h)
theorem Fr.exq {G H H' : Hp} {a c : Addr} {n : Nat} (f : Fr G H a c n) (e : Ex H H') : Fr G H' a c n := ⟨f.ex.trans e, f.ga, f.gc, f.st.ex e⟩
theorem gh_new {a c p : Addr} {n : Nat} {H H' : Hp} {o : HO} (s : StA H a c n) (np : H p = none) (h : H' p = some o) (hn : ∀ ps, o ≠ .tbl ps) : gh a c H' p = some o := gh_of h hn (s.na np).1 (s.na np).2
mutual
theorem dp_noTb {K : PySem.W.Frag} {H : Hp} : ∀ (d : PyData) (v : V), Dp K H v d → Dp K (noTb H) v d
  | .none, _, h => by cases h; exact .non
  | .bool _, _, h => by cases h; exact .bl _
  | .int _, _, h => by cases h; exact .int _
  | .str _, _, h => by cases h; exact .str _
  | .list ds, _, h => by
    cases h with
    | lst h1 h2 =>
      refine .lst ?_ (dpAll_noTb ds _ h2)
      rcases h1 with (h1 | ⟨o, h1⟩) | h1
      · exact .inl (.inl (noTb_of h1 fun ps z => by cases z))
      · exact .inl (.inr ⟨o, noTb_of h1 fun ps z => by cases z⟩)
      · exact .inr h1
  | .tuple ds, _, h => by
    cases h with
    | tup h1 h2 =>
      refine .tup ?_ (dpAll_noTb ds _ h2)
      rcases h1 with (h1 | ⟨o, h1⟩) | h1
      · exact .inl (.inl (noTb_of h1 fun ps z => by cases z))
      · exact .inl (.inr ⟨o, noTb_of h1 fun ps z => by cases z⟩)
      · exact .inr h1
  | .dict _, _, h => by cases h
theorem dpAll_noTb {K : PySem.W.Frag} {H : Hp} : ∀ (ds : List PyData) (vs : List V), DpAll K H vs ds → DpAll K (noTb H) vs ds
  | [], _, h => by cases h; exact .nil
  | d :: ds, _, h => by
    cases h with
    | cons a t => exact .cons (dp_noTb d _ a) (dpAll_noTb ds _ t)
end
theorem dp_new {K : PySem.W.Frag} {H H' : Hp} {a c : Addr} {n : Nat} {v : V} {d : PyData} (h : Dp K (newH H H') v d) (e : ExB [a, c] H H') (s : StA H a c n) : Dp K (gh a c H') v d := by
  refine dp_ex (fun b o q => ?_) _ _ (dp_noTb _ _ h)
  have q1 := noTb_ex b o q
  have q2 := new_ex e s.ls b o q1
  refine gh_of q2 (fun ps z => noTb_no _ b ps (z ▸ q)) (fun z => ?_) (fun z => ?_)
  · rw [z, new_S s.ls (by simp)] at q1
    cases q1
  · rw [z, new_S s.ls (by simp)] at q1
    cases q1
/-- the same data, seen twice -/
theorem sm_atom {K : PySem.W.Frag} {H : Hp} {d : PyData} {x y : V} (w : atom d) (hx : Dp K H x d) (hy : Dp K H y d) : x = y ∧ Atm x := by
  rcases w with rfl | ⟨b, rfl⟩ | ⟨i, rfl⟩ | ⟨s, rfl⟩ <;> cases hx <;> cases hy
  · exact ⟨rfl, .inl rfl⟩
  · exact ⟨rfl, .inr (.inl ⟨_, rfl⟩)⟩
  · exact ⟨rfl, .inr (.inr (.inl ⟨_, rfl⟩))⟩
  · exact ⟨rfl, .inr (.inr (.inr ⟨_, rfl⟩))⟩
theorem dpAll_two {K : PySem.W.Frag} {H : Hp} {R : V → V → Prop} : ∀ {ds : List PyData} {xs ys : List V}, (∀ d ∈ ds, ∀ x y, Dp K H x d → Dp K H y d → R x y) → DpAll K H xs ds → DpAll K H ys ds → Paired R xs ys
  | [], _, _, _, hx, hy => by cases hx; cases hy; exact .nil
  | d :: ds, _, _, f, hx, hy => by
    cases hx with
    | cons a t =>
      cases hy with
      | cons a2 t2 => exact .cons (f d List.mem_cons_self _ _ a a2) (dpAll_two (fun e he => f e (List.mem_cons_of_mem _ he)) t t2)
theorem sm_dp {K : PySem.W.Frag} {H : Hp} : ∀ (k : Nat) (d : PyData) (x y : V), Wd k d → Dp K H x d → Dp K H y d → Sm K H k x y
  | 0, d, x, y, w, hx, hy => sm_atom w hx hy
  | k + 1, d, x, y, w, hx, hy => by
    rcases w with w | ⟨ds, e, hl, hw⟩
    · exact .inl (sm_atom w hx hy)
    · rcases e with rfl | rfl
      · cases hx with
        | lst x1 x2 =>
          cases hy with
          | lst y1 y2 => exact .inr (.inl ⟨_, _, _, _, rfl, rfl, x1, y1, by rw [dpAll_len x2]; omega, dpAll_two (fun d hd x y => sm_dp k d x y (hw d hd)) x2 y2⟩)
      · cases hx with
        | tup x1 x2 =>
          cases hy with
          | tup y1 y2 => exact .inr (.inr (.inl ⟨_, _, _, _, rfl, rfl, x1, y1, by rw [dpAll_len x2]; omega, dpAll_two (fun d hd x y => sm_dp k d x y (hw d hd)) x2 y2⟩))
/-- wide data, its lists turned to tuples or back -/
theorem wd_strip : ∀ (k : Nat) (d e : PyData), strip e = strip d → Wd k d → Wd k e
  | 0, d, e, h, w => by
    have hs : strip d = d := by rcases w with rfl | ⟨b, rfl⟩ | ⟨i, rfl⟩ | ⟨s, rfl⟩ <;> simp only [strip]
    rw [hs] at h
    rw [strip_atom h w]
    exact w
  | k + 1, d, e, h, w => by
    rcases w with w | ⟨ds, hd, hl, hw⟩
    · have hs : strip d = d := by rcases w with rfl | ⟨b, rfl⟩ | ⟨i, rfl⟩ | ⟨s, rfl⟩ <;> simp only [strip]
      rw [hs] at h
      rw [strip_atom h w]
      exact .inl w
    · have hs : strip d = .list (stripAll ds) := by rcases hd with rfl | rfl <;> simp only [strip]
      obtain ⟨es, h1, h2⟩ := strip_list (h.trans hs)
      rw [stripAll_map, stripAll_map] at h2
      have hlen : es.length = ds.length := by
        have := congrArg List.length h2
        rwa [List.length_map, List.length_map] at this
      refine .inr ⟨es, h1, by omega, fun x hx => ?_⟩
      obtain ⟨y, hy, e2⟩ := List.mem_map.mp (h2 ▸ List.mem_map_of_mem (f := strip) hx)
      exact wd_strip k y x e2.symm (hw y hy)
/-! ### the options asked and what is handed -/
/-- an option as the law asks it: o it is, or none at all -/
def Itm (K : PySem.W.Frag) (G : Hp) (v : V) : Option (List Int) → Prop
  | none => (∃ d ∈ odds, Dp K G v d) ∨ ∃ b, v = .ref b ∧ G b = some (.dK [])
  | some o => ∃ b, v = .ref b ∧ SqL K G b (o.map V.int) ∧ OptI o
def Hnd (K : PySem.W.Frag) (N : Hp) (v : V) (q : Option (List Int)) : Prop := Sm K N 2 v v ∧ (∃ x, Shown K N v x) ∧ match q with
  | none => NoOpt K N v
  | some o => OptAt K N v o
theorem Shown.ex {K : PySem.W.Frag} {H H' : Hp} {v : V} {x : Str} (h : Shown K H v x) (e : Ex H H') : Shown K H' v x := by
  rcases h with ⟨d, h1, h2⟩ | ⟨a, h1, h2, h3⟩
  · exact .inl ⟨d, dp_ex e _ _ h1, h2⟩
  · exact .inr ⟨a, h1, e _ _ h2, h3⟩
theorem dp_opt {K : PySem.W.Frag} {G : Hp} {b : Addr} {o : List Int} (h : SqL K G b (o.map V.int)) : Dp K G (.ref b) (.list (o.map .int)) := by
  refine .lst h ?_
  clear h
  induction o with
  | nil => exact .nil
  | cons i o ih => exact .cons (.int i) ih
def spLooseI (K : PySem.W.Frag) : Sp := fun vs H Q _ => ∃ (G : Hp) (a c : Addr) (n : Nat) (v : V) (q : Option (List Int)), vs = [.ref a, v] ∧ Fr G H a c n ∧ NoTb G ∧ n + 11 < 1000000000 ∧ Itm K G v q ∧ ∀ H' v', ExB [a, c] H H' → StA H' a c (n + 11) → Hnd K (gh a c H') v' q → Q v' H'
theorem loose_imp {K : PySem.W.Frag} : ∀ vs H Q E, spLooseI K vs H Q E → spLoose K 2 vs H Q E := by
  rintro vs H Q E ⟨G, a, c, n, v, q, rfl, f, nt, hn, hi, k⟩
  refine ⟨G, a, c, n, v, rfl, f, hn, ?_⟩
  cases q with
  | none =>
    rcases hi with ⟨d, hd, hv⟩ | ⟨b, rfl, hb⟩
    · refine .inl ⟨d, hv, wd_odds d hd, fun H' v' d' e s h hs => ?_⟩
      have h2 := dp_new h e f.st
      have hb : badB (strip d') = true := by
        rw [hs]
        exact odds_bad d hd
      exact k H' v' e s ⟨sm_dp 2 d' v' v' (wd_strip 2 d d' hs (wd_odds d hd)) h2 h2, ⟨_, small_shown h2 (small_strip hs (odds_small d hd))⟩, noopt_b (bad_b h2 hb)⟩
    · refine .inr ⟨b, [], rfl, hb, fun H' e s => ?_⟩
      have hb2 : gh a c H' b = some (.dK []) := gh_of (exB_keep e f.ex f.ga f.gc b _ hb) (fun ps z => by cases z) (fun z => by rw [z, f.ga] at hb; cases hb) (fun z => by rw [z, f.gc] at hb; cases hb)
      exact k H' _ e s ⟨.inr (.inr (.inr ⟨b, b, rfl, rfl, hb2, hb2, by decide⟩)), ⟨_, .inr ⟨b, rfl, hb2, rfl⟩⟩, .inl (.inr (.inr (.inr (.inr ⟨b, [], rfl, hb2⟩))))⟩
  | some o =>
    obtain ⟨b, rfl, hb, ho⟩ := hi
    refine .inl ⟨_, dp_opt hb, wd_opt ho, fun H' v' d' e s h hs => ?_⟩
    have h2 := dp_new h e f.st
    exact k H' v' e s ⟨sm_dp 2 d' v' v' (wd_strip 2 _ d' hs (wd_opt ho)) h2 h2, ⟨_, small_shown h2 (small_strip hs (opt_small ho))⟩, opt_h h2 hs ho⟩
theorem Itm.ex {K : PySem.W.Frag} {G G' : Hp} {v : V} {q : Option (List Int)} (h : Itm K G v q) (e : Ex G G') : Itm K G' v q := by
  cases q with
  | none =>
    rcases h with ⟨d, hd, hv⟩ | ⟨b, h1, h2⟩
    · exact .inl ⟨d, hd, dp_ex e _ _ hv⟩
    · exact .inr ⟨b, h1, e _ _ h2⟩
  | some o =>
    obtain ⟨b, h1, h2, h3⟩ := h
    exact ⟨b, h1, ex_l e h2, h3⟩
/-- an option, and lawful -/
def okQ (R : List Rl) (h : Int) : Option (List Int) → Prop
  | none => False
  | some o => Legal R h o
def spAsI (K : PySem.W.Frag) : Sp := fun vs H Q _ => ∃ (l : Addr) (xs : List V) (R : List Rl) (h : Int) (v : V) (q : Option (List Int)), vs = [.ref l, .int h, v] ∧ SqL K H l xs ∧ Paired (RuleT K H) xs R ∧ Goods R ∧ Srt R ∧ Itm K H v q ∧
  (¬ okQ R h q → ∀ H', Ex H H' → Q .non H') ∧ ∀ o, q = some o → Legal R h o → ∀ H' p (o' : List Int), Ex H H' → H p = none → H' p = some (.lst (o'.map V.int)) → o'.Perm o → Q (.ref p) H'
theorem as_imp {K : PySem.W.Frag} : ∀ vs H Q E, spAsI K vs H Q E → spAsOpt K vs H Q E := by
  rintro vs H Q E ⟨l, xs, R, h, v, q, rfl, h1, h2, h3, h4, hi, k1, k2⟩
  refine ⟨l, xs, R, h, v, rfl, h1, h2, h3, h4, ?_⟩
  cases q with
  | none =>
    refine .inl ⟨?_, k1 (fun z => z)⟩
    rcases hi with ⟨d, hd, hv⟩ | ⟨b, rfl, hb⟩
    · exact bad_b hv (odds_bad d hd)
    · exact .inl (.inr (.inr (.inr (.inr ⟨b, [], rfl, hb⟩))))
  | some o =>
    obtain ⟨b, rfl, hb, ho⟩ := hi
    exact .inr ⟨b, o, rfl, hb, ho.1, fun x hx => (ho.2 x hx).1, fun hL => k2 o rfl hL, fun hL => k1 hL⟩
end Tk
namespace Tk
open PySem PySem.Spec PyProof.Rows L2
open Evl (Ex ex_l ex_t ex_rd sq_of st_of fresh_back)
/-- the tables of lambdas -/
def TLs (K : PySem.W.Frag) : List (Addr × Str) := [((He.cT K ("_law_ways_right", none)).2, "_law_ways_right.<locals>.<lambda>"), ((He.cT K ("_law_refused_right", none)).2, "_law_refused_right.<locals>.<lambda>")]
/-! ### the plain law of what ends and heaps_from tell -/
theorem opts_ended {R : List Rl} {h : Int} {os : List (List Int)} (k : OptsOk R h os) : os = [] ↔ Ended R h := by
  constructor
  · intro e
    have no : ∀ o : List Int, o.length ≤ 2 → (∀ x ∈ o, 1 ≤ x) → o.Pairwise (· ≤ ·) → ¬ Legal R h o := fun o h1 h2 h3 h4 => by
      have := k.all o h1 h2 h3 h4
      rw [e] at this
      cases this
    refine ⟨fun z => no [] (by decide) (fun x hx => by cases hx) .nil ?_, fun o ho z => no [o] (by simp) (fun x hx => by rw [List.mem_singleton.mp hx]; exact ho) (List.pairwise_singleton _ _) ?_, fun b hb z => no [1, b - 1] (by simp) (fun x hx => ?_) ?_ ?_⟩
    · show Can R h "none" (h - 0)
      rw [Int.sub_zero]
      exact z
    · show Can R h "one" (h - (o + 0))
      rw [Int.add_zero]
      exact z
    · simp only [List.mem_cons, List.not_mem_nil, or_false] at hx
      rcases hx with rfl | rfl <;> omega
    · refine List.pairwise_cons.mpr ⟨fun x hx => ?_, List.pairwise_singleton _ _⟩
      rw [List.mem_singleton.mp hx]
      omega
    · show Can R h "two" (h - (1 + (b - 1 + 0)))
      rw [show h - (1 + (b - 1 + 0)) = h - b by omega]
      exact z
  · rintro ⟨e1, e2, e3⟩
    cases os with
    | nil => rfl
    | cons o os =>
      refine absurd ?_ (show ¬ False from id)
      obtain ⟨k1, k2, _, k4⟩ := k.ok o List.mem_cons_self
      match o, k1, k2, k4 with
      | [], _, _, k4 =>
        refine e1 ?_
        have : Can R h "none" (h - 0) := k4
        rwa [Int.sub_zero] at this
      | [i], _, k2, k4 =>
        refine e2 i (k2 i (by simp)).1 ?_
        have : Can R h "one" (h - (i + 0)) := k4
        rwa [Int.add_zero] at this
      | [i, j], _, k2, k4 =>
        have h1 := (k2 i (by simp)).1
        have h2 := (k2 j (by simp)).1
        refine e3 (i + j) (by omega) ?_
        have : Can R h "two" (h - (i + (j + 0))) := k4
        rwa [Int.add_zero] at this
/-- an option in order -/
def OrdI (o : List Int) : Prop := OptI o ∧ o.Pairwise (· ≤ ·)
theorem ord_wild {o : List Int} (h : OrdI o) : ¬ Wild o := by
  rintro ⟨i, j, rfl, hl⟩
  have := (List.pairwise_cons.mp h.2).1 j (by simp)
  omega
theorem opts_mem {R : List Rl} {h : Int} {os : List (List Int)} (k : OptsOk R h os) {o : List Int} (ho : OrdI o) : o ∈ os ↔ Legal R h o :=
  ⟨fun z => (k.ok o z).2.2.2, fun z => k.all o ho.1.1 (fun x hx => (ho.1.2 x hx).1) ho.2 z⟩
theorem opts_ord {R : List Rl} {h : Int} {os : List (List Int)} (k : OptsOk R h os) (hh : h ≤ 10 ^ 18) {o : List Int} (ho : o ∈ os) : OrdI o := by
  obtain ⟨k1, k2, k3, _⟩ := k.ok o ho
  exact ⟨⟨k1, fun x hx => ⟨(k2 x hx).1, Int.le_trans (k2 x hx).2 hh⟩⟩, k3⟩
theorem up_succ (m : Nat) : upTo (m + 1) = upTo m ++ [1 + (m : Int)] := by
  unfold upTo
  rw [List.range_succ, List.map_append]
  rfl
theorem up_le {m : Nat} {x : Int} (h : x ∈ upTo m) : 1 ≤ x ∧ x ≤ m := by
  unfold upTo at h
  obtain ⟨i, hi, rfl⟩ := List.mem_map.mp h
  have := List.mem_range.mp hi
  omega
theorem up_few (few : Nat) : ∀ m : Nat, few ≤ m → (upTo m).filter (fun x => decide (x ≤ (few : Int))) = upTo few
  | 0, h => by
    have : few = 0 := by omega
    subst this
    rfl
  | m + 1, h => by
    by_cases e : few = m + 1
    · subst e
      exact List.filter_eq_self.mpr fun x hx => decide_eq_true (up_le hx).2
    · rw [up_succ, List.filter_append, up_few few m (by omega), List.filter_cons_of_neg (by rw [decide_eq_true_eq]; omega), List.filter_nil, List.append_nil]
theorem heaps_few {R : List Rl} {o : List Int} {m few : Nat} (h : few ≤ m) : (heapsOf R o m).filter (fun x => decide (x ≤ (few : Int))) = heapsOf R o few := by
  unfold heapsOf
  rw [List.filter_filter, ← up_few few m h, List.filter_filter]
  exact List.filter_congr fun x _ => Bool.and_comm _ _
theorem up_take_snoc {m i : Nat} {p : Int → Bool} (h : i < m) : ((upTo m).take (i + 1)).filter p = ((upTo m).take i).filter p ++ if p (1 + (i : Int)) = true then [1 + (i : Int)] else [] := by
  rw [take_snoc (up_take h), List.filter_append]
  congr 1
  by_cases e : p (1 + (i : Int)) = true
  · rw [if_pos e, List.filter_cons_of_pos e, List.filter_nil]
  · rw [if_neg e, List.filter_cons_of_neg e, List.filter_nil]
theorem filter_len {m : Nat} {p : Int → Bool} {i : Nat} : (((upTo m).take i).filter p).length ≤ i := Nat.le_trans (List.length_filter_le _ _) (by rw [List.length_take]; exact Nat.min_le_left _ _)
/-! ### options as data -/
def od (o : List Int) : PyData := .list (o.map .int)
theorem ods_lay : ∀ os : List (List Int), PyData.canLayAll0 (os.map od) = true
  | [] => by simp [PyData.canLayAll0]
  | o :: os => by simp [PyData.canLayAll0, PyData.canLay0, od, ints_lay o, ods_lay os]
theorem ods_depth : ∀ os : List (List Int), PyData.depthAll (os.map od) ≤ 2
  | [] => by simp [PyData.depthAll]
  | o :: os => by
    have h1 := ods_depth os
    have h2 := ints_depth o
    simp only [List.map_cons, PyData.depthAll, PyData.depth, od]
    omega
theorem ods_shaped (os : List (List Int)) : SeqAt.shaped (.list (os.map od)) = true := by
  have h := ods_depth os
  unfold SeqAt.shaped
  rw [Bool.and_eq_true]
  refine ⟨by simp only [PyData.canLay0]; exact ods_lay os, decide_eq_true ?_⟩
  simp only [PyData.depth]
  omega
theorem ods_in (o : List Int) (os : List (List Int)) : ((os.map od).any fun z => PyData.eqv z (od o)) = decide (o ∈ os) := by
  rw [List.any_map]
  induction os with
  | nil => simp
  | cons x os ih =>
    rw [List.any_cons, ih]
    show (PyData.eqv (.list (x.map .int)) (.list (o.map .int)) || _) = _
    rw [eqv_ints]
    by_cases e : x = o
    · subst e
      simp
    · have e' : ¬ o = x := fun z => e z.symm
      simp [e, e', List.mem_cons]
theorem dp_lins {K : PySem.W.Frag} {H : Hp} : ∀ {ys : List V} {os : List (List Int)}, Paired (LiN K H) ys os → DpAll K H ys (os.map od)
  | _, _, .nil => .nil
  | _, _, .cons a t => by
    obtain ⟨b, rfl, h⟩ := a
    exact .cons (dp_opt h) (dp_lins t)
theorem g_inO {K : PySem.W.Frag} {H : Hp} {Q : VK} {x : V} {a : Addr} {ys : List V} {o : List Int} {os : List (List Int)} {b : Bool} (hx : LiN K H x o) (hl : SqL K H a ys) (hp : Paired (LiN K H) ys os) (e : decide (o ∈ os) = b) (h : Q (.bl b) H) : rInD K x (.ref a) H Q := by
  obtain ⟨p, rfl, hq⟩ := hx
  exact ⟨od o, os.map od, dp_opt hq, .lst hl (dp_lins hp), ints_shaped o, ods_shaped os, by rw [ods_in, e]; exact h⟩
theorem g_eqNil {K : PySem.W.Frag} {H : Hp} {Q : VK} {a b : Addr} {ds : List PyData} {c : Bool} (ha : Dp K H (.ref a) (.list ds)) (sd : SeqAt.shaped (.list ds) = true) (hb : SqL K H b []) (e : ds.isEmpty = c) (h : Q (.bl c) H) : rEqD K (.ref a) (.ref b) H Q :=
  ⟨.list ds, .list [], ha, .lst hb .nil, sd, by decide +kernel, by rw [eqv_nil, e]; exact h⟩
end Tk
namespace Tk
open PySem PySem.Spec PyProof.Rows L2
open Evl (Ex ex_l ex_t ex_rd sq_of st_of fresh_back)
/-! ### what is met -/
/-- an error that _law_met tells -/
theorem errW_of {K : PySem.W.Frag} {Q : VK} {x w : Str} {v : V} {H : Hp} (hx : (x = "BadBook" ∧ w = "book") ∨ (x = "BadHeap" ∧ w = "heap") ∨ (x = "BadOption" ∧ w = "option") ∨ (x = "BadNumber" ∧ w = "number"))
    (h : ∀ H' p, Ex H H' → H p = none → H' p = some (.tup [.str w, v]) → Q (.ref p) H') : ErrE K x v H (ErrW K Q) := fun d H' nd e hd =>
  ⟨x, w, v, d, hx, rfl, rfl, hd, g_newT (sz (of_decide_eq_true rfl)) fun p H2 np e2 hp _ => h H2 p (e.trans e2) (none_ex e np) hp⟩
theorem sm_at {K : PySem.W.Frag} {H : Hp} {x : V} (h : Atm x) : ∀ {d : Nat}, Sm K H d x x
  | 0 => ⟨rfl, h⟩
  | _ + 1 => .inl ⟨rfl, h⟩
theorem sm_two {K : PySem.W.Frag} {H : Hp} {p q : Addr} {w : Str} {x y : V} {d : Nat} (hp : SqT K H p [.str w, x]) (hq : SqT K H q [.str w, y]) (h : Sm K H d x y) : Sm K H (d + 1) (.ref p) (.ref q) :=
  .inr (.inr (.inl ⟨p, q, _, _, rfl, rfl, hp, hq, of_decide_eq_true rfl, .cons (sm_at (.inr (.inr (.inr ⟨w, rfl⟩)))) (.cons h .nil)⟩))
theorem sm_lst {K : PySem.W.Frag} {H : Hp} {p q : Addr} {xs ys : List V} {d : Nat} (hp : H p = some (.lst xs)) (hq : H q = some (.lst ys)) (hl : xs.length ≤ 1000) (h : Paired (Sm K H d) xs ys) : Sm K H (d + 1) (.ref p) (.ref q) :=
  .inr (.inl ⟨p, q, _, _, rfl, rfl, sq_of hp, sq_of hq, hl, h⟩)
/-! ### odd data -/
def atomB : PyData → Bool
  | .none | .bool _ | .int _ | .str _ => true
  | _ => false
theorem atom_of {d : PyData} (h : atomB d = true) : atom d := by
  cases d with
  | none => exact .inl rfl
  | bool b => exact .inr (.inl ⟨b, rfl⟩)
  | int i => exact .inr (.inr (.inl ⟨i, rfl⟩))
  | str s => exact .inr (.inr (.inr ⟨s, rfl⟩))
  | _ => cases h
def wdB : Nat → PyData → Bool
  | 0, d => atomB d
  | k + 1, .list ds => decide (ds.length ≤ 10) && ds.all (wdB k)
  | _ + 1, d => atomB d
theorem wd_of : ∀ {k : Nat} {d : PyData}, wdB k d = true → Wd k d
  | 0, _, h => atom_of h
  | k + 1, .list ds, h => by
    simp only [wdB, Bool.and_eq_true, decide_eq_true_eq] at h
    exact .inr ⟨ds, .inl rfl, h.1, fun e he => wd_of (List.all_eq_true.mp h.2 e he)⟩
  | _ + 1, .none, h => .inl (atom_of h)
  | _ + 1, .bool _, h => .inl (atom_of h)
  | _ + 1, .int _, h => .inl (atom_of h)
  | _ + 1, .str _, h => .inl (atom_of h)
  | _ + 1, .tuple _, h => .inl (atom_of h)
  | _ + 1, .dict _, h => .inl (atom_of h)
theorem sm_data {K : PySem.W.Frag} {H : Hp} {v : V} {d : PyData} (h : Dp K H v d) (w : wdB 2 d = true) : Sm K H 2 v v := sm_dp 2 d v v (wd_of w) h h
theorem sm_dict {K : PySem.W.Frag} {H : Hp} {b : Addr} (h : H b = some (.dK [])) : Sm K H 2 (.ref b) (.ref b) := .inr (.inr (.inr ⟨b, b, rfl, rfl, h, h, by decide⟩))
theorem noopt_data {K : PySem.W.Frag} {H : Hp} {v : V} {d : PyData} (h : Dp K H v d) (b : badB (strip d) = true) : NoOpt K H v := noopt_b (bad_b h b)
theorem NoBook.ex {H H' : Hp} {v : V} (h : NoBook H v) (e : Ex H H') : NoBook H' v :=
  ⟨h.1.imp (fun z => z.ex e) (fun ⟨a, xs, h1, h2⟩ => ⟨a, xs, h1, e _ _ h2⟩), h.2⟩
def O1 (K : PySem.W.Frag) (G : Hp) (x : V) : Prop := NoBook G x ∧ Sm K G 2 x x
def O2 (K : PySem.W.Frag) (G : Hp) (x : V) : Prop := Plain K G x ∧ isHp x = false ∧ Sm K G 2 x x
def O3 (K : PySem.W.Frag) (G : Hp) (x : V) : Prop := (NoOpt K G x ∨ ∃ o, OptAt K G x o ∧ Wild o) ∧ Sm K G 2 x x
def O4 (K : PySem.W.Frag) (G : Hp) (x : V) : Prop := Plain K G x ∧ isNu x = false ∧ Sm K G 2 x x
theorem o1_all {K : PySem.W.Frag} {G : Hp} {p q : Addr} (hp : G p = some (.lst [])) (hq : G q = some (.dK [])) : ∀ x ∈ [V.non, V.int 5, V.str "book", V.ref p, V.ref q], O1 K G x := by
  intro x hx
  simp only [List.mem_cons, List.not_mem_nil, or_false] at hx
  rcases hx with rfl | rfl | rfl | rfl | rfl
  · exact ⟨⟨.inl (.inl rfl), fun b z => by cases z⟩, sm_at (.inl rfl)⟩
  · exact ⟨⟨.inl (.inr (.inr (.inl ⟨5, rfl⟩))), fun b z => by cases z⟩, sm_at (.inr (.inr (.inl ⟨5, rfl⟩)))⟩
  · exact ⟨⟨.inl (.inr (.inr (.inr (.inl ⟨_, rfl⟩)))), fun b z => by cases z⟩, sm_at (.inr (.inr (.inr ⟨_, rfl⟩)))⟩
  · exact ⟨⟨.inr ⟨p, [], rfl, hp⟩, fun b z => by cases z⟩, sm_data (d := .list []) (.lst (sq_of hp) .nil) (by decide +kernel)⟩
  · exact ⟨⟨.inl (.inr (.inr (.inr (.inr ⟨q, [], rfl, hq⟩)))), fun b z => by cases z⟩, sm_dict hq⟩
theorem o2_all {K : PySem.W.Frag} {G : Hp} {p : Addr} (hp : G p = some (.lst [.int 3])) : ∀ x ∈ [V.non, V.int 0, V.int (-3), V.bl true, V.str "3", V.ref p, V.int (10 ^ 18 + 1)], O2 K G x := by
  have at_ : ∀ {v : V} {d : PyData}, Dp K G v d → isHp v = false → wdB 2 d = true → O2 K G v := fun h1 h2 h3 => ⟨dp_plain h1, h2, sm_data h1 h3⟩
  intro x hx
  simp only [List.mem_cons, List.not_mem_nil, or_false] at hx
  rcases hx with rfl | rfl | rfl | rfl | rfl | rfl | rfl
  · exact at_ .non rfl (by decide +kernel)
  · exact at_ (.int 0) (by decide +kernel) (by decide +kernel)
  · exact at_ (.int _) (by decide +kernel) (by decide +kernel)
  · exact at_ (.bl true) rfl (by decide +kernel)
  · exact at_ (.str _) rfl (by decide +kernel)
  · exact at_ (d := .list [.int 3]) (.lst (sq_of hp) (.cons (.int 3) .nil)) rfl (by decide +kernel)
  · exact at_ (.int _) (by decide +kernel) (by decide +kernel)
theorem o4_all {K : PySem.W.Frag} {G : Hp} {p q : Addr} (hp : G p = some (.lst [.int 3])) (hq : G q = some (.dK [])) : ∀ x ∈ [V.non, V.int (-1), V.bl true, V.str "3", V.ref p, V.ref q], O4 K G x := by
  have at_ : ∀ {v : V} {d : PyData}, Dp K G v d → isNu v = false → wdB 2 d = true → O4 K G v := fun h1 h2 h3 => ⟨dp_plain h1, h2, sm_data h1 h3⟩
  intro x hx
  simp only [List.mem_cons, List.not_mem_nil, or_false] at hx
  rcases hx with rfl | rfl | rfl | rfl | rfl | rfl
  · exact at_ .non rfl (by decide +kernel)
  · exact at_ (.int _) (by decide +kernel) (by decide +kernel)
  · exact at_ (.bl true) rfl (by decide +kernel)
  · exact at_ (.str _) rfl (by decide +kernel)
  · exact at_ (d := .list [.int 3]) (.lst (sq_of hp) (.cons (.int 3) .nil)) rfl (by decide +kernel)
  · exact ⟨.inl (.inr (.inr (.inr (.inr ⟨q, [], rfl, hq⟩)))), rfl, sm_dict hq⟩
theorem o3_all {K : PySem.W.Frag} {G : Hp} {p1 p2 p3 p4 p5 p6 p7 p8 p9 p10 : Addr} (h1 : G p1 = some (.lst [.int 0])) (h2 : G p2 = some (.lst [.int 2, .int 1])) (h3 : G p3 = some (.lst [.int 1, .int 1, .int 1])) (h4 : G p4 = some (.lst [.bl true])) (h5 : G p5 = some (.lst [.non]))
    (h6 : G p6 = some (.dK [])) (h7 : G p7 = some (.lst [.int 1])) (h8 : G p8 = some (.lst [.ref p7])) (h9 : G p9 = some (.lst [.int (-1)])) (h10 : G p10 = some (.lst [.int 1, .str "2"])) :
    ∀ x ∈ [V.non, V.int 5, V.str "1", V.ref p1, V.ref p2, V.ref p3, V.ref p4, V.ref p5, V.ref p6, V.ref p8, V.ref p9, V.ref p10], O3 K G x := by
  have at_ : ∀ {v : V} {d : PyData}, Dp K G v d → badB (strip d) = true → wdB 2 d = true → O3 K G v := fun h1 h2 h3 => ⟨.inl (noopt_data h1 h2), sm_data h1 h3⟩
  intro x hx
  simp only [List.mem_cons, List.not_mem_nil, or_false] at hx
  rcases hx with rfl | rfl | rfl | rfl | rfl | rfl | rfl | rfl | rfl | rfl | rfl | rfl
  · exact at_ .non (by decide +kernel) (by decide +kernel)
  · exact at_ (.int _) (by decide +kernel) (by decide +kernel)
  · exact at_ (.str _) (by decide +kernel) (by decide +kernel)
  · exact at_ (d := .list [.int 0]) (.lst (sq_of h1) (.cons (.int _) .nil)) (by decide +kernel) (by decide +kernel)
  · refine ⟨.inr ⟨[2, 1], ⟨⟨p2, rfl, .inl (sq_of h2)⟩, by decide, fun x hx => ?_⟩, 2, 1, rfl, by decide⟩, sm_data (d := .list [.int 2, .int 1]) (.lst (sq_of h2) (.cons (.int _) (.cons (.int _) .nil))) (by decide +kernel)⟩
    simp only [List.mem_cons, List.not_mem_nil, or_false] at hx
    rcases hx with rfl | rfl <;> decide
  · exact at_ (d := .list [.int 1, .int 1, .int 1]) (.lst (sq_of h3) (.cons (.int _) (.cons (.int _) (.cons (.int _) .nil)))) (by decide +kernel) (by decide +kernel)
  · exact at_ (d := .list [.bool true]) (.lst (sq_of h4) (.cons (.bl _) .nil)) (by decide +kernel) (by decide +kernel)
  · exact at_ (d := .list [.none]) (.lst (sq_of h5) (.cons .non .nil)) (by decide +kernel) (by decide +kernel)
  · exact ⟨.inl (.inl (.inr (.inr (.inr (.inr ⟨p6, [], rfl, h6⟩))))), sm_dict h6⟩
  · exact at_ (d := .list [.list [.int 1]]) (.lst (sq_of h8) (.cons (.lst (sq_of h7) (.cons (.int _) .nil)) .nil)) (by decide +kernel) (by decide +kernel)
  · exact at_ (d := .list [.int (-1)]) (.lst (sq_of h9) (.cons (.int _) .nil)) (by decide +kernel) (by decide +kernel)
  · exact at_ (d := .list [.int 1, .str "2"]) (.lst (sq_of h10) (.cons (.int _) (.cons (.str _) .nil))) (by decide +kernel) (by decide +kernel)
theorem mem_of_at {α : Type} {xs : List α} {i : Nat} {x : α} {P : α → Prop} (h : ∀ y ∈ xs, P y) (e : xs[i]? = some x) : P x := h x (List.mem_of_getElem? e)
end Tk
namespace Tk
open PySem PySem.Spec PyProof.Rows L2
open Evl (Ex ex_l ex_t ex_rd sq_of st_of fresh_back)
section
variable {K : PySem.W.Frag} {H N : Hp} {b v : V} {R : List Rl} {h : Int} {q : Option (List Int)} {E : XK} {ok : List Rl → Int → List Int → Prop}
theorem ask_no (hb : BookAt K H b R) (g : Goods R) (h1 : 1 ≤ h) (h18 : h ≤ 10 ^ 18) (hd : Hnd K N v q) (e : Ex N H) (hn : ¬ okQ R h q) (hE : ErrE K "BadOption" v H E) : AskOpt K b (.int h) v H E ok := by
  obtain ⟨_, _, hopt⟩ := hd
  refine .inr ⟨R, hb, g, .inr ⟨h, ⟨rfl, h1, h18⟩, ?_⟩⟩
  cases q with
  | none => exact .inl ⟨NoOpt.ex hopt e, hE⟩
  | some o => exact .inr ⟨o, OptAt.ex hopt e, fun _ => hE, fun hl => absurd hl hn⟩
theorem ask_yes {o : List Int} (hb : BookAt K H b R) (g : Goods R) (h1 : 1 ≤ h) (h18 : h ≤ 10 ^ 18) (hd : Hnd K N v (some o)) (e : Ex N H) (hl : Legal R h o) (k : ok R h o) : AskOpt K b (.int h) v H E ok := by
  obtain ⟨_, _, hopt⟩ := hd
  exact .inr ⟨R, hb, g, .inr ⟨h, ⟨rfl, h1, h18⟩, .inr ⟨o, OptAt.ex hopt e, fun z => absurd hl z, fun _ => k⟩⟩⟩
end
theorem ways_perm {R : List Rl} {h : Int} {o o' : List Int} (p : o'.Perm o) : ways R h o' = ways R h o ∧ o'.sum = o.sum := by
  have e := sum_perm p
  refine ⟨?_, e⟩
  unfold ways
  rw [e, p.length_eq]
theorem ways_len {R : List Rl} {h : Int} {o : List Int} (g : Goods R) : (ways R h o).length ≤ 6 := Nat.le_trans (List.length_filter_le _ _) g.len
theorem sm_ways {K : PySem.W.Frag} {H : Hp} {p p' : Addr} {ys ys' : List V} {n : Int} {W : List Rl} (hp : H p = some (.lst ys)) (hp' : H p' = some (.lst ys')) (hw : Paired (WayT K H n) ys W) (hw' : Paired (WayT K H n) ys' W) (hl : W.length ≤ 6) : Sm K H 3 (.ref p) (.ref p') := by
  refine sm_dp 3 (.list (W.map fun r => .tuple [rd r, .int n])) _ _ (.inr ⟨_, .inl rfl, by rw [List.length_map]; omega, fun e he => ?_⟩) (.lst (sq_of hp) (dp_ways hw)) (.lst (sq_of hp') (dp_ways hw'))
  obtain ⟨r, _, rfl⟩ := List.mem_map.mp he
  refine .inr ⟨_, .inr rfl, of_decide_eq_true rfl, fun e he => ?_⟩
  simp only [List.mem_cons, List.not_mem_nil, or_false] at he
  rcases he with rfl | rfl
  · exact wd_rule r
  · exact .inl (.inr (.inr (.inl ⟨n, rfl⟩)))
theorem atm_hv (h : Option Int) : Atm (hv h) := by
  cases h with
  | none => exact .inl rfl
  | some k => exact .inr (.inr (.inl ⟨k, rfl⟩))
theorem fz_way {K : PySem.W.Frag} {H : Hp} {n : Int} {v : V} {r : Rl} (h : WayT K H n v r) : Fz K H 2 v := by
  obtain ⟨t, u, rfl, h1, t2, rfl, h2⟩ := h
  refine .inr ⟨t, _, rfl, h1, of_decide_eq_true rfl, fun y hy => ?_⟩
  simp only [List.mem_cons, List.not_mem_nil, or_false] at hy
  rcases hy with rfl | rfl
  · refine .inr ⟨t2, _, rfl, h2, of_decide_eq_true rfl, fun y hy => ?_⟩
    simp only [rv, List.mem_cons, List.not_mem_nil, or_false] at hy
    rcases hy with rfl | rfl | rfl | rfl | rfl
    · exact .inr (.inr (.inl ⟨_, rfl⟩))
    · exact atm_hv _
    · exact .inr (.inr (.inr ⟨_, rfl⟩))
    · exact .inr (.inr (.inl ⟨_, rfl⟩))
    · exact .inr (.inr (.inl ⟨_, rfl⟩))
  · exact .inl (.inr (.inr (.inl ⟨n, rfl⟩)))
theorem fz_ways {K : PySem.W.Frag} {H : Hp} {n : Int} {ys : List V} {W : List Rl} (h : Paired (WayT K H n) ys W) : ∀ x ∈ ys, Fz K H 2 x := fun x hx => by
  obtain ⟨i, hi, e⟩ := List.mem_iff_getElem.mp hx
  obtain ⟨r, _, q⟩ := prd_get h (List.getElem?_eq_some_iff.mpr ⟨hi, e⟩)
  exact fz_way q
theorem sqT_noTb {K : PySem.W.Frag} {H : Hp} {t : Addr} {xs : List V} (q : SqT K H t xs) : SqT K (noTb H) t xs := by
  rcases q with (h | ⟨o, h⟩) | h
  · exact .inl (.inl (noTb_of h fun ps z => by cases z))
  · exact .inl (.inr ⟨o, noTb_of h fun ps z => by cases z⟩)
  · exact .inr h
theorem WayT.lam {K : PySem.W.Frag} {H H1 : Hp} {n : Int} {v : V} {r : Rl} (q : WayT K H n v r) (x : LamX.ExtN H H1) : WayT K H1 n v r := by
  obtain ⟨t, u, rfl, h1, t2, rfl, h2⟩ := q
  exact ⟨t, _, rfl, ex_t (noTb_to x) (sqT_noTb h1), t2, rfl, ex_t (noTb_to x) (sqT_noTb h2)⟩
/-- ("told", the ways) at t -/
structure Pk (K : PySem.W.Frag) (H : Hp) (n : Int) (W : List Rl) (t p : Addr) (ys : List V) : Prop where
  t : H t = some (.tup [.str "told", .ref p])
  p : H p = some (.lst ys)
  w : Paired (WayT K H n) ys W
section
variable {K : PySem.W.Frag} {H H1 : Hp} {n : Int} {W : List Rl} {t p : Addr} {ys : List V}
theorem Pk.ex (k : Pk K H n W t p ys) (e : Ex H H1) : Pk K H1 n W t p ys := ⟨e _ _ k.t, e _ _ k.p, prd_mono (fun _ _ z => WayT.ex z e) k.w⟩
theorem Pk.lam (k : Pk K H n W t p ys) (x : LamX.ExtN H H1) : Pk K H1 n W t p ys := ⟨x _ _ k.t (fun ps z => by cases z), x _ _ k.p (fun ps z => by cases z), prd_mono (fun _ _ z => WayT.lam z x) k.w⟩
theorem Pk.but {fo : Addr} {zs : List V} (k : Pk K H n W t p ys) (b : But fo H H1) (hf : H fo = some (.lst zs)) (np : p ≠ fo) : Pk K H1 n W t p ys := by
  refine ⟨?_, ?_, prd_mono (fun _ _ z => WayT.but z b hf) k.w⟩
  · rw [b t (fun z => by have := k.t; rw [z, hf] at this; cases this)]
    exact k.t
  · rw [b p np]
    exact k.p
end
/-- the stream where lists are spoiled -/
theorem StA.exS {H H' : Hp} {a c : Addr} {n : Nat} {S : List Addr} (s : StA H a c n) (e : ExB S H H') (h1 : a ∉ S) (h2 : c ∉ S) : StA H' a c n := by
  obtain ⟨h0, r, k, m, cs, ha, hc, h3⟩ := s
  exact ⟨h0, r, k, m, cs, e _ _ h1 ha, e _ _ h2 hc, h3⟩
theorem Fr.spoil {G H H' : Hp} {a c : Addr} {n : Nat} {S : List Addr} (f : Fr G H a c n) (e : ExB S H H') (hS : ∀ b ∈ S, G b = none ∧ b ≠ a ∧ b ≠ c) : Fr G H' a c n :=
  ⟨e.keep f.ex fun b hb => (hS b hb).1, f.ga, f.gc, f.st.exS e (fun z => (hS _ z).2.1 rfl) (fun z => (hS _ z).2.2 rfl)⟩
/-- what is new since G was known is not of G, not of the stream -/
theorem Fr.fresh {G H : Hp} {a c b : Addr} {n : Nat} (f : Fr G H a c n) (h : H b = none) : G b = none ∧ b ≠ a ∧ b ≠ c := ⟨none_ex f.ex h, (f.st.na h).1, (f.st.na h).2⟩
end Tk
namespace Tk
open PySem PySem.Spec PyProof.Rows L2
open Evl (Ex ex_l ex_t ex_rd sq_of st_of fresh_back)
local macro_rules | `(tactic| walk_at "g") => `(tactic| (repeat (first
  | (with_reducible refine g_seq ?_) | (with_reducible refine g_asg ?_) | (with_reducible refine g_name ?_) | (with_reducible refine g_sub ?_)
  | ((with_reducible refine' g_var ?e ?_); (case e => exact rfl)) | (with_reducible refine g_c ?_) | (with_reducible refine g_op ?_) | (with_reducible refine g_un ?_) | (with_reducible refine g_U ?_)
  | (with_reducible refine g_I0 ?_) | (with_reducible refine g_eqI ?_) | (with_reducible refine g_neI ?_) | (with_reducible refine g_eqS ?_) | (with_reducible refine g_neS ?_) | (with_reducible refine g_eqB ?_) | (with_reducible refine g_neB ?_)
  | (with_reducible refine g_test ?_) | (with_reducible refine g_tB ?_) | (with_reducible refine g_bl ?_) | (with_reducible refine g_and ?_) | (with_reducible refine g_or ?_) | (with_reducible refine g_not ?_)
  | (with_reducible refine g_andV ?_) | (with_reducible refine g_orV ?_) | (with_reducible refine g_notV ?_) | (with_reducible refine g_ifE ?_) | (with_reducible refine g_ifS ?_)
  | (with_reducible refine g_next ?_) | (with_reducible refine g_ret ?_) | (with_reducible refine g_drop ?_) | (with_reducible refine g_nil ?_) | (with_reducible refine g_cons ?_) | (with_reducible refine g_call ?_)
  | (with_reducible refine g_cb ?_) | (with_reducible refine g_bm ?_) | (with_reducible refine g_lst ?_) | (with_reducible refine g_tup ?_) | (with_reducible refine iteT ?_) | (with_reducible refine iteF ?_) | (with_reducible refine g_nt ?_) | (with_reducible refine g_nf ?_)
  | (with_reducible refine g_par ?_) | (with_reducible refine g_par3 ?_) | (with_reducible refine g_two ?_) | (with_reducible refine g_three ?_) | (with_reducible refine g_ckw ?_) | (with_reducible refine g_yes ?_) | (with_reducible refine g_chain ?_) | (with_reducible refine g_gnil ?_) | (with_reducible refine g_gcons ?_) | (with_reducible refine g_fld ?_) | (with_reducible refine g_sfld ?_) | (with_reducible refine g_isN ?_) | (with_reducible refine g_nint ?_) | (with_reducible refine g_nintB ?_) | (with_reducible refine g_max ?_) | (with_reducible refine g_min ?_))))
local macro_rules | `(tactic| walk_at "k") => `(tactic| (repeat (first
  | (with_reducible refine g_seq ?_) | (with_reducible refine g_asg ?_) | (with_reducible refine g_name ?_) | (with_reducible refine g_sub ?_)
  | ((with_reducible refine' g_var ?e ?_); (case e => exact rfl)) | (with_reducible refine g_c ?_) | (with_reducible refine g_op ?_) | (with_reducible refine g_un ?_) | (with_reducible refine g_U ?_)
  | (with_reducible refine g_I0 ?_) | (with_reducible refine g_eqI ?_) | (with_reducible refine g_neI ?_) | (with_reducible refine g_eqS ?_) | (with_reducible refine g_neS ?_) | (with_reducible refine g_eqB ?_) | (with_reducible refine g_neB ?_)
  | (with_reducible refine g_test ?_) | (with_reducible refine g_tB ?_) | (with_reducible refine g_bl ?_) | (with_reducible refine g_and ?_) | (with_reducible refine g_or ?_) | (with_reducible refine g_not ?_)
  | (with_reducible refine g_andV ?_) | (with_reducible refine g_orV ?_) | (with_reducible refine g_notV ?_) | (with_reducible refine g_ifE ?_)
  | (with_reducible refine g_next ?_) | (with_reducible refine g_ret ?_) | (with_reducible refine g_drop ?_) | (with_reducible refine g_nil ?_) | (with_reducible refine g_cons ?_) | (with_reducible refine g_call ?_)
  | (with_reducible refine g_cb ?_) | (with_reducible refine g_bm ?_) | (with_reducible refine g_lst ?_) | (with_reducible refine g_tup ?_) | (with_reducible refine iteT ?_) | (with_reducible refine iteF ?_) | (with_reducible refine g_nt ?_) | (with_reducible refine g_nf ?_)
  | (with_reducible refine g_par ?_) | (with_reducible refine g_par3 ?_) | (with_reducible refine g_two ?_) | (with_reducible refine g_three ?_) | (with_reducible refine g_ckw ?_) | (with_reducible refine g_yes ?_) | (with_reducible refine g_chain ?_) | (with_reducible refine g_gnil ?_) | (with_reducible refine g_gcons ?_) | (with_reducible refine g_fld ?_) | (with_reducible refine g_sfld ?_) | (with_reducible refine g_isN ?_) | (with_reducible refine g_nint ?_) | (with_reducible refine g_nintB ?_) | (with_reducible refine g_max ?_) | (with_reducible refine g_min ?_))))
def spRight (K : PySem.W.Frag) : Sp := fun vs H Q _ => ∃ (G : Hp) (a c l s : Addr) (b : V) (n : Nat) (h : Int) (xs ss : List V) (R : List Rl), vs = [.ref a, .ref l, b, .int h, .ref s] ∧ Fr G H a c n ∧ NoTb G ∧ LamX.Tabs (TLs K) H ∧ n + 300 < 1000000000 ∧
  SqL K G l xs ∧ Paired (RuleT K G) xs R ∧ Goods R ∧ Srt R ∧ BookAt K G b R ∧ 1 ≤ h ∧ h ≤ 10 ^ 18 ∧ G s = some (.lst ss) ∧ ss.length ≤ 8 ∧ (∀ x ∈ ss, ∃ t o, x = .ref t ∧ SqL K G t (o.map V.int) ∧ OptI o) ∧
  ∀ H', Fr G H' a c (n + 300) → LamX.Tabs (TLs K) H' → Q (.bl true) H'
theorem pe_revK (K : PySem.W.Frag) {X : Cx} {e : Expr} {te : TE} {k : Nat} {p1 p2 p3 pos : Pos} (he : PE X e te) (h : X.K = K := by rfl) : PE X (.Subscript e (.Slice none none (some (.UnaryOp .USub (.Constant (.int 1) k p1) p2)) p3) pos) (tRevL K te) := by
  subst h
  exact pe_revL he
theorem g_revL {K : PySem.W.Frag} {te : TE} {σ : L2.St} {H : Hp} {Q : VK} (h : te σ H fun x H1 => ∃ a xs, x = .ref a ∧ SqL K H1 a xs ∧ ∀ p, H1 p = none → Q (.ref p) (upd H1 p (.lst xs.reverse))) : tRevL K te σ H Q := h
section
variable {P : Program} {w : World} {K : PySem.W.Frag} {mg : Str → Option Value} {base : Heap}
theorem sc_w_ways_right : FnScope ["_law_stream", "_law_raw", "_law_made", "_law_heap", "_law_some", "_law_odds", "_law_option", "_law_kept", "_law_was", "_law_due", "_law_found", "_law_handed", "_law_one", "_law_row"] ["_law_stream", "_law_raw", "_law_made", "_law_heap", "_law_some"] (defScope st_w_ways_right) := ⟨rfl, rfl, rfl, by decide +kernel, rfl, by decide +kernel, by decide +kernel⟩
theorem ok_w_ways_right (T : Txt K mg) (TB : LamX.TabB base mg (He.cT K ("_law_ways_right", none)).1 (He.cT K ("_law_ways_right", none)).2) : KeptG P w K mg base 9 "_law_ways_right" ["_law_stream", "_law_raw", "_law_made", "_law_heap", "_law_some"] (spRight K) := by
  have G_w_loose := (ok_w_loose (P := P) (w := w) (base := base) T 2).imp loose_imp
  have G_w_b_as_option := (ok_w_b_as_option (P := P) (w := w) (base := base) T).imp as_imp
  have G_w_b_ways := ok_w_b_ways (P := P) (w := w) (base := base) T
  have G_ways_to := ok_ways_to (P := P) (w := w) (base := base) T
  have G_w_same := ok_w_same (P := P) (w := w) (base := base) T 6
  have G_w_a_spoiled := ok_w_a_spoiled (P := P) (w := w) (base := base) T 4
  have m1 : ((He.cT K ("_law_ways_right", none)).2, ("_law_ways_right.<locals>.<lambda>" : Str)) ∈ TLs K := List.mem_cons_self
  have u1 : ∀ z ∈ TLs K, z.1 = (He.cT K ("_law_ways_right", none)).2 → z.2 = ("_law_ways_right.<locals>.<lambda>" : Str) := fun z hz e => by
    rcases List.mem_cons.mp hz with rfl | hz
    · rfl
    · rw [List.mem_singleton.mp hz] at e
      exact absurd e.symm T.tab2
  refine keptG T.d_w_ways_right sc_w_ways_right (fun vs H Q E h => ?_) (fun A outer s H0 vs Q E hr hgd h => ?_)
  · obtain ⟨G, a, c, l, s, b, n, h, xs, ss, R, rfl, _⟩ := h
    rfl
  · obtain ⟨G, a, c, l, s, b, n, h, xs, ss, R, rfl, f, nt, tb, hn, hl, hR, g, hso, hbk, h1, h18, hs, hs8, hss, q⟩ := h
    refine ⟨_, (pss_cons (ps_set (i := 5) sc_w_ways_right.nd rfl (Or.inl rfl) (pe_lst (pa_cons (pe_lst (pa_cons (pv 3) pa_nil)) (pa_cons (pe_lst (pa_cons (pv 3) (pa_cons pe_int pa_nil))) (pa_cons (pe_lst (pa_cons pe_int pa_nil)) (pa_cons pe_non (pa_cons pe_int (pa_cons pe_str (pa_cons (pe_lst (pa_cons pe_int (pa_cons pe_int (pa_cons pe_int pa_nil)))) (pa_cons (pe_lst (pa_cons pe_bl pa_nil)) (pa_cons (pe_lst (pa_cons (pe_lst (pa_cons pe_int pa_nil)) pa_nil)) (pa_cons pe_dnewK pa_nil))))))))))))
      (pss_cons (ps_for PassesOwn.never rfl (pi_q (pe_op op_cat (pe_op op_cat (pv 4) (pe_lc rfl (own := [("_law_one", 12)]) sc_w_ways_right.nd (pi_q (pv 4)) (blkOk_by (own := [("_law_one", 12)]) (N := ["_law_stream", "_law_raw", "_law_made", "_law_heap", "_law_some", "_law_odds", "_law_option", "_law_kept", "_law_was", "_law_due", "_law_found", "_law_handed", "_law_one", "_law_row"]) (sc := defScope st_w_ways_right) (by decide +kernel)) (fun _ _ _ _ _ => (pg_name (i := 12) sc_w_ways_right.nd rfl (Or.inl rfl))) (fun _ _ _ _ _ => pts_nil) (fun _ _ _ _ _ => (pe_revK K (pv 12))))) (pv 5))) (pg_name (i := 6) sc_w_ways_right.nd rfl (Or.inl rfl)) (pss_cons (ps_set (i := 11) sc_w_ways_right.nd rfl (Or.inr rfl) (pe_c G_w_loose (hr.mono (by decide)) pass0 (pa_cons (pv 0) (pa_cons (pv 6) pa_nil))))
      (pss_cons (ps_par (i := 7) (j := 8) rfl sc_w_ways_right.nd rfl rfl (by decide) rfl rfl (pa_cons (pe_c G_w_b_as_option (hr.mono (by decide)) pass0 (pa_cons (pv 1) (pa_cons (pv 3) (pa_cons (pv 6) pa_nil)))) (pa_cons (pe_callB (cr_repr K hgd (units_of hr)) (by rfl) T.f_repr (by decide +kernel) (pa_cons (pv 11) pa_nil)) pa_nil)) rfl)
      (pss_cons (ps_set (i := 9) sc_w_ways_right.nd rfl (Or.inl rfl) (pe_ifExp (pt_cmpR op_isN (pv 7) pe_non (nomark _)) (pe_tup (pa_cons pe_str (pa_cons (pv 11) pa_nil))) (pe_tup (pa_cons pe_str (pa_cons (pe_c G_w_b_ways (hr.mono (by decide)) pass0 (pa_cons (pv 1) (pa_cons (pv 3) (pa_cons (pv 7) pa_nil)))) pa_nil)))))
      (pss_cons (ps_set (i := 10) sc_w_ways_right.nd rfl (Or.inl rfl) (pe_lst (pa_cons (pe_met T (k := 6) (by rfl) TB rfl m1 u1 (hr.mono (by decide)) (LamX.lamS_by (sc := defScope st_w_ways_right) (by decide +kernel)) rfl (fun _ _ _ _ _ => rfl) (fun A outer s H E f c hr => pe_c G_ways_to (hr.mono (by decide)) (passes_call (takes_of rfl rfl rfl rfl) (fun _ _ _ _ h => h)) (pa_cons (pe_var (i := 2) rfl (.inr (.inr rfl))) (pa_cons (pe_var (i := 3) rfl (.inr (.inr rfl))) (pa_cons (pe_var (i := 11) rfl (.inr (.inr rfl))) pa_nil))))) pa_nil)))
      (pss_cons (ps_expr (pe_bmK K PySem.F.plainAttrs_list PySem.F.slot_list_append PySem.F.type_list_append mt_append (pv 10) (pa_cons (pe_met T (k := 6) (by rfl) TB rfl m1 u1 (hr.mono (by decide)) (LamX.lamS_by (sc := defScope st_w_ways_right) (by decide +kernel)) rfl (fun _ _ _ _ _ => rfl) (fun A outer s H E f c hr => pe_ck G_ways_to (KW_ways_to T) (hr.mono (by decide)) (passes_call (takes_of rfl rfl rfl rfl) (fun _ _ _ _ h => h)) (pk_cons (pe_var (i := 11) rfl (.inr (.inr rfl))) (pk_cons (pe_var (i := 3) rfl (.inr (.inr rfl))) (pk_cons (pe_var (i := 2) rfl (.inr (.inr rfl))) pk_nil))))) pa_nil)))
      (pss_cons (ps_if (PW.pt (pw_or (pt_not (pt_val (pe_c G_w_same (hr.mono (by decide)) pass0 (pa_cons (pv 10) (pa_cons (pe_lst (pa_cons (pv 9) (pa_cons (pv 9) pa_nil))) pa_nil))))) (pw_or1 (pt_cmpR op_ne (pe_callB (cr_repr K hgd (units_of hr)) (by rfl) T.f_repr (by decide +kernel) (pa_cons (pv 11) pa_nil)) (pv 8) (nomark _))))) (pss_one (ps_ret pe_bl)) pss_nil)
      (pss_one (ps_expr (pe_c G_w_a_spoiled (hr.mono (by decide)) pass0 (pa_cons (pe_ifExp (pt_cmpR op_notN (pv 7) pe_non (nomark _)) (pe_lc rfl (own := [("_law_row", 13)]) sc_w_ways_right.nd (pi_q (pv 10)) (blkOk_by (own := [("_law_row", 13)]) (N := ["_law_stream", "_law_raw", "_law_made", "_law_heap", "_law_some", "_law_odds", "_law_option", "_law_kept", "_law_was", "_law_due", "_law_found", "_law_handed", "_law_one", "_law_row"]) (sc := defScope st_w_ways_right) (by decide +kernel)) (fun _ _ _ _ _ => (pg_name (i := 13) sc_w_ways_right.nd rfl (Or.inl rfl))) (fun _ _ _ _ _ => pts_nil) (fun _ _ _ _ _ => (pe_ix (ixT K) (pv 13) pe_int (fun _ _ => rfl)))) (pe_lst pa_nil)) pa_nil)))))))))))
      (pss_one (ps_ret pe_bl)))), ?_⟩
    walk_at "k"
    refine g_new (sz (of_decide_eq_true rfl)) fun m1 H1 n1 e1 hm1 b1 => ?_
    walk_at "k"
    refine g_new (sz (of_decide_eq_true rfl)) fun m2 H2 n2 e2 hm2 b2 => ?_
    walk_at "k"
    refine g_new (sz (of_decide_eq_true rfl)) fun m3 H3 n3 e3 hm3 b3 => ?_
    walk_at "k"
    refine g_new (sz (of_decide_eq_true rfl)) fun m4 H4 n4 e4 hm4 b4 => ?_
    walk_at "k"
    refine g_new (sz (of_decide_eq_true rfl)) fun m5 H5 n5 e5 hm5 b5 => ?_
    walk_at "k"
    refine g_new (sz (of_decide_eq_true rfl)) fun m6 H6 n6 e6 hm6 b6 => ?_
    walk_at "k"
    refine g_new (sz (of_decide_eq_true rfl)) fun m7 H7 n7 e7 hm7 b7 => ?_
    walk_at "k"
    refine g_dnew fun m8 H8 n8 e8 hm8 b8 => ?_
    walk_at "k"
    refine g_new (sz (of_decide_eq_true rfl)) fun mo H9 n9 e9 hmo b9 => ?_
    walk_at "k"
    have e08 : Ex H0 H8 := e1.trans (e2.trans (e3.trans (e4.trans (e5.trans (e6.trans (e7.trans e8))))))
    have e09 := e08.trans e9
    have s0 := f.st
    have i1 := hm1
    have hs9 : H9 s = some (.lst ss) := e09 _ _ (f.ex _ _ hs)
    refine g_forI ?_
    walk_at "k"
    refine g_lcQ (a := s) (xs := ss) (G := G) (fun R hR => ?_) (.inl (sq_of hs)) (f.ex.trans e09) fun L hL => ⟨fun i ac H => Ex H9 H ∧ ∀ x ∈ ac, ∃ t o, x = .ref t ∧ H0 t = none ∧ t ≠ L ∧ H t = some (.lst (o.map V.int)) ∧ OptI o, fun H4 b4 e4 _ => ⟨e4, fun x hx => by cases hx⟩, fun _ _ _ z => (f.ex.trans e09).trans z.1, ?_, ?_⟩
    · walk_at "k"
      exact hR
    · rintro j ac y H10 hy hal hL10 ⟨e10, hac⟩
      obtain ⟨t, o, rfl, ht, ho⟩ := hss y (List.mem_of_getElem? hy)
      have hj : j < 8 := by
        have := (List.getElem?_eq_some_iff.mp hy).1
        omega
      refine g_lcs ?_
      walk_at "k"
      refine ⟨rfl, ?_⟩
      walk_at "k"
      refine g_revL ?_
      walk_at "k"
      refine ⟨t, o.map V.int, rfl, ex_l ((f.ex.trans e09).trans e10) ht, fun p np => ?_⟩
      have eu : Ex H10 (upd H10 p (.lst (o.map V.int).reverse)) := Evl.Ex.new np
      refine lcT_of hal (by omega) (eu _ _ hL10) fun H11 b11 h11 => ⟨?_, fun x hx => ?_⟩
      · exact ex_but (e10.trans eu) hL b11
      · have hpL : p ≠ L := fun z => by rw [z, hL10] at np; cases np
        rcases List.mem_append.mp hx with hx | hx
        · obtain ⟨t', o', rfl, q1, q2, q3, q4⟩ := hac x hx
          exact ⟨t', o', rfl, q1, q2, by rw [b11 t' q2]; exact eu _ _ q3, q4⟩
        · rw [List.mem_singleton.mp hx]
          refine ⟨p, o.reverse, rfl, none_ex (e09.trans e10) np, hpL, ?_, ?_⟩
          · rw [b11 p hpL, upd_same, List.map_reverse]
          · exact ⟨by rw [List.length_reverse]; exact ho.1, fun x hx => ho.2 x (List.mem_reverse.mp hx)⟩
    rintro ac H10 hal hL10 ⟨e10, hac⟩
    walk_at "k"
    refine g_cat (e10 _ _ hs9) hL10 (by omega) fun c1 H11 nc1 e11 hc1 bc1 => ?_
    walk_at "k"
    refine g_cat hc1 (e11 _ _ (e10 _ _ hmo)) ?_ fun c2 H12 nc2 e12 hc2 bc2 => ?_
    · rw [List.length_append]
      simp only [List.length_cons, List.length_nil]
      omega
    walk_at "k"
    have e9c : Ex H9 H12 := e10.trans (e11.trans e12)
    have e0c : Ex H0 H12 := e09.trans e9c
    have fc := f.exq e0c
    have tbc := tb.ext e0c
    have gg := fc.gh nt
    obtain ⟨G1, hG1⟩ : ∃ G1, G1 = gh a c H12 := ⟨_, rfl⟩
    have nw : ∀ {p : Addr} {Hi : Hp} {o : HO}, Ex H0 Hi → Hi p = none → H12 p = some o → (∀ ps, o ≠ .tbl ps) → G1 p = some o := fun {p Hi o} e np hp hn => by
      rw [hG1]
      exact gh_new s0 (none_ex e np) hp hn
    have nl : ∀ {p : Addr} {Hi : Hp} {ys : List V}, Ex H0 Hi → Hi p = none → H12 p = some (.lst ys) → SqL K G1 p ys := fun {p Hi ys} e np hp => sq_of (nw e np hp fun ps z => by cases z)
    have k1 : Ex H0 H1 := e1
    have k2 := k1.trans e2
    have k3 := k2.trans e3
    have k4 := k3.trans e4
    have k5 := k4.trans e5
    have k6 := k5.trans e6
    have k7 := k6.trans e7
    have k8 := k7.trans e8
    have r8 : Ex H8 H12 := e9.trans e9c
    have r7 := e8.trans r8
    have r6 := e7.trans r7
    have r5 := e6.trans r6
    have r4 := e5.trans r5
    have r3 := e4.trans r4
    have r2 := e3.trans r3
    have r1 := e2.trans r2
    obtain ⟨its, hits⟩ : ∃ its, its = ss ++ ac ++ [V.ref m1, V.ref m2, V.ref m3, V.non, V.int 5, V.str "1", V.ref m4, V.ref m5, V.ref m7, V.ref m8] := ⟨_, rfl⟩
    have hc2' : SqL K G1 c2 its := by
      rw [hits]
      exact nl (e09.trans (e10.trans e11)) nc2 hc2
    have hlen : its.length ≤ 26 := by
      rw [hits, List.length_append, List.length_append]
      simp only [List.length_cons, List.length_nil]
      omega
    have hit : ∀ x ∈ its, ∃ q, Itm K G1 x q := by
      rw [hits]
      intro x hx
      rcases List.mem_append.mp hx with hx | hx
      · rcases List.mem_append.mp hx with hx | hx
        · obtain ⟨t, o, rfl, ht, ho⟩ := hss x hx
          exact ⟨some o, t, rfl, by rw [hG1]; exact ex_l gg ht, ho⟩
        · obtain ⟨t, o, rfl, q1, _, q3, q4⟩ := hac x hx
          exact ⟨some o, t, rfl, nl (Hi := H0) (fun _ _ z => z) q1 (e12 _ _ (e11 _ _ q3)), q4⟩
      · simp only [List.mem_cons, List.not_mem_nil, or_false] at hx
        rcases hx with rfl | rfl | rfl | rfl | rfl | rfl | rfl | rfl | rfl | rfl
        · exact ⟨some [h], m1, rfl, nl (Hi := H0) (fun _ _ z => z) n1 (r1 _ _ hm1), by simp, fun x hx => by rw [List.mem_singleton.mp hx]; exact ⟨h1, h18⟩⟩
        · refine ⟨some [h, 1], m2, rfl, nl k1 n2 (r2 _ _ hm2), by simp, fun x hx => ?_⟩
          simp only [List.mem_cons, List.not_mem_nil, or_false] at hx
          rcases hx with rfl | rfl
          · exact ⟨h1, h18⟩
          · decide
        · exact ⟨none, .inl ⟨.list [.int 0], by simp [odds], .lst (nl k2 n3 (r3 _ _ hm3)) (.cons (.int 0) .nil)⟩⟩
        · exact ⟨none, .inl ⟨.none, by simp [odds], .non⟩⟩
        · exact ⟨none, .inl ⟨.int 5, by simp [odds], .int 5⟩⟩
        · exact ⟨none, .inl ⟨.str "1", by simp [odds], .str _⟩⟩
        · exact ⟨none, .inl ⟨.list [.int 1, .int 1, .int 1], by simp [odds], .lst (nl k3 n4 (r4 _ _ hm4)) (.cons (.int 1) (.cons (.int 1) (.cons (.int 1) .nil)))⟩⟩
        · exact ⟨none, .inl ⟨.list [.bool true], by simp [odds], .lst (nl k4 n5 (r5 _ _ hm5)) (.cons (.bl true) .nil)⟩⟩
        · exact ⟨none, .inl ⟨.list [.list [.int 1]], by simp [odds], .lst (nl k6 n7 (r7 _ _ hm7)) (.cons (.lst (nl k5 n6 (r6 _ _ hm6)) (.cons (.int 1) .nil)) .nil)⟩⟩
        · exact ⟨none, .inr ⟨m8, rfl, nw k7 n8 (r8 _ _ hm8) fun ps z => by cases z⟩⟩
    have fr1 : Fr G1 H12 a c n := by
      rw [hG1]
      exact fr_gh fc.st
    have nt1 : NoTb G1 := by
      rw [hG1]
      exact gh_no _ _ _
    have gG1 : Ex G G1 := by
      rw [hG1]
      exact gg
    have hl1 := ex_l gG1 hl
    have hR1 := prd_mono (fun _ _ z => RuleT.ex z gG1) hR
    have hb1 := hbk.ex gG1
    refine over_for (G := G1) (xs := its) (.inl hc2') fr1.ex (fun i σ H => ∃ (o6 o7 o8 o9 o10 o11 o12 o13 : Option V), σ = [some (.ref a), some (.ref l), some b, some (.int h), some (.ref s), some (.ref mo), o6, o7, o8, o9, o10, o11, o12, o13] ∧ Fr G1 H a c (n + i * 11) ∧ LamX.Tabs (TLs K) H) ?_ ?_ ?_ ?_
    · exact ⟨none, none, none, none, none, none, none, none, rfl, by rw [Nat.zero_mul]; exact fr1, tbc⟩
    · rintro i σ H ⟨_, _, _, _, _, _, _, _, _, z, _⟩
      exact z.ex
    · rintro i x σ H hx ⟨o6, o7, o8, o9, o10, o11, o12, o13, rfl, fi, ti⟩
      obtain ⟨qq, hq⟩ := hit x (List.mem_of_getElem? hx)
      have hi : i < 26 := by
        have := (List.getElem?_eq_some_iff.mp hx).1
        omega
      walk_at "k"
      refine ⟨G1, a, c, n + i * 11, x, qq, rfl, fi, nt1, by omega, hq, fun H13 v' x13 s13 hv => ?_⟩
      walk_at "k"
      have fj := fi.nx x13 s13
      have tj := tabs_exB ti x13 fi.st.ls
      obtain ⟨G2, hG2⟩ : ∃ G2, G2 = gh a c H13 := ⟨_, rfl⟩
      rw [← hG2] at hv
      have g12 : Ex G1 G2 := by
        rw [hG2]
        exact fj.gh nt1
      have nt2 : NoTb G2 := by
        rw [hG2]
        exact gh_no _ _ _
      have f2 : Fr G2 H13 a c (n + i * 11 + 11) := by
        rw [hG2]
        exact fr_gh s13
      have hl2 := ex_l g12 hl1
      have hR2 := prd_mono (fun _ _ z => RuleT.ex z g12) hR1
      have hb2 := hb1.ex g12
      have hd := hv
      obtain ⟨hsm, ⟨was, hwas⟩, _⟩ := hv
      refine ⟨l, xs, R, h, x, qq, rfl, ex_l f2.ex hl2, prd_mono (fun _ _ z => RuleT.ex z f2.ex) hR2, g, hso, hq.ex fj.ex, fun hno H14 e14 => ?_, fun o hqo hL H14 p o' e14 np hp hperm => ?_⟩
      · have f3 := f2.exq e14
        have t3 := tj.ext e14
        walk_at "k"
        refine ⟨v', was, rfl, hwas.ex f3.ex, ?_⟩
        walk_at "k"
        rw [show decide (V.non = V.non) = true from rfl]
        walk_at "k"
        refine g_newT (sz (of_decide_eq_true rfl)) fun td H15 ntd e15 htd b15 => ?_
        walk_at "k"
        refine g_met (t3.ext e15) fun H16 x16 t16 => ?_
        have f4 := (f3.exq e15).lam nt2 x16
        have htd16 := x16 _ _ htd fun ps z => by cases z
        walk_at "k"
        refine ⟨b, .int h, v', rfl, ask_no (hb2.ex f4.ex) g h1 h18 hd f4.ex hno (errW_of (.inr (.inr (.inl ⟨rfl, rfl⟩))) fun H17 q1 e17 nq1 hq1 => ?_)⟩
        have f5 := f4.exq e17
        walk_at "k"
        refine g_new (sz (of_decide_eq_true rfl)) fun fo H18 nfo e18 hfo b18 => ?_
        have f6 := f5.exq e18
        walk_at "k"
        refine ⟨ty_L hfo, ?_⟩
        walk_at "k"
        refine g_met ((t16.ext e17).ext e18) fun H19 x19 t19 => ?_
        have f7 := f6.lam nt2 x19
        have htd19 := x19 _ _ (e18 _ _ (e17 _ _ htd16)) fun ps z => by cases z
        have hq119 := x19 _ _ (e18 _ _ hq1) fun ps z => by cases z
        have hfo19 := x19 _ _ hfo fun ps z => by cases z
        walk_at "k"
        refine g_back ?_
        walk_at "k"
        refine ⟨rfl, b, .int h, v', rfl, ask_no (hb2.ex f7.ex) g h1 h18 hd f7.ex hno (errW_of (.inr (.inr (.inl ⟨rfl, rfl⟩))) fun H20 q2 e20 nq2 hq2 => ?_)⟩
        have f8 := f7.exq e20
        have hfo20 := e20 _ _ hfo19
        have hq120 := e20 _ _ hq119
        have htd20 := e20 _ _ htd19
        walk_at "k"
        refine g_app hfo20 (szl (of_decide_eq_true rfl)) fun H21 b21 h21 => ?_
        have n1 : q1 ≠ fo := fun z => by rw [z, hfo20] at hq120; cases hq120
        have n2 : q2 ≠ fo := fun z => by rw [z, hfo20] at hq2; cases hq2
        have n3 : td ≠ fo := fun z => by rw [z, hfo20] at htd20; cases htd20
        have x21 : ExB [fo] H20 H21 := fun b o hb z => by rw [b21 b (fun w => hb (by rw [w]; simp))]; exact z
        have nfo5 := f5.fresh nfo
        have f9 : Fr G2 H21 a c (n + i * 11 + 11) := f8.spoil x21 fun b hb => by rw [List.mem_singleton.mp hb]; exact nfo5
        have t21 := tabs_exB (t19.ext e20) x21 fun b hb => by rw [List.mem_singleton.mp hb]; exact ⟨_, hfo20⟩
        walk_at "k"
        with_reducible refine g_ifS ?_
        walk_at "k"
        refine g_new (sz (of_decide_eq_true rfl)) fun du H22 ndu e22 hdu b22 => ?_
        have f10 := f9.exq e22
        walk_at "k"
        have hfo22 := e22 _ _ h21
        have hq122 := e22 _ _ ((b21 q1 n1).trans hq120)
        have hq222 := e22 _ _ ((b21 q2 n2).trans hq2)
        have htd22 := e22 _ _ ((b21 td n3).trans htd20)
        have hs22 : Sm K H22 2 v' v' := hsm.ex f10.ex
        refine ⟨.ref fo, .ref du, rfl, (sm_lst hfo22 hdu (of_decide_eq_true rfl) (.cons (sm_two (st_of hq122) (st_of htd22) hs22) (.cons (sm_two (st_of hq222) (st_of htd22) hs22) .nil))).up.up, fun H23 e23 => ?_⟩
        have f11 := f10.exq e23
        have t23 := (t21.ext e22).ext e23
        walk_at "k"
        refine ⟨v', was, rfl, hwas.ex f11.ex, ?_⟩
        walk_at "k"
        rw [show (!decide (was = was)) = false by simp]
        walk_at "k"
        rw [show (!decide (V.non = V.non)) = false from rfl]
        walk_at "k"
        refine g_new (sz (of_decide_eq_true rfl)) fun en H24 nen e24 hen b24 => ?_
        have f12 := f11.exq e24
        have nen11 := f11.fresh nen
        walk_at "k"
        refine ⟨.ref en, rfl, .inr (.inl ⟨3, en, [], rfl, rfl, hen, by decide, fun x hx => (by cases hx), fun H25 x25 => ?_⟩)⟩
        have f13 : Fr G2 H25 a c (n + i * 11 + 11) := f12.spoil x25 fun b hb => by rw [List.mem_singleton.mp hb]; exact nen11
        walk_at "k"
        exact ⟨_, _, _, _, _, _, _, _, rfl, ⟨g12.trans f13.ex, fj.ga, fj.gc, f13.st.mono (by rw [Nat.succ_mul]; omega)⟩, tabs_exB (t23.ext e24) x25 fun b hb => by rw [List.mem_singleton.mp hb]; exact ⟨_, hen⟩⟩
      · have f3 := f2.exq e14
        have t3 := tj.ext e14
        have npf := f2.fresh np
        subst hqo
        walk_at "k"
        refine ⟨v', was, rfl, hwas.ex f3.ex, ?_⟩
        walk_at "k"
        rw [show decide (V.ref p = V.non) = false from rfl]
        walk_at "k"
        obtain ⟨_, _, _, ho⟩ := hq
        have ho' : o'.length ≤ 2 ∧ ∀ x ∈ o', 1 ≤ x := ⟨by rw [hperm.length_eq]; exact ho.1, fun x hx => (ho.2 x (hperm.mem_iff.mp hx)).1⟩
        obtain ⟨wp1, wp2⟩ := ways_perm (R := R) (h := h) hperm
        refine ⟨l, p, xs, R, h, o', rfl, ex_l f3.ex hl2, prd_mono (fun _ _ z => RuleT.ex z f3.ex) hR2, g, hso, sq_of hp, ho'.1, ho'.2, fun H15 pd yd e15 npd hpd hyd => ?_⟩
        rw [wp1, wp2] at hyd
        have f4 := f3.exq e15
        walk_at "k"
        refine g_newT (sz (of_decide_eq_true rfl)) fun td H16 ntd e16 htd b16 => ?_
        have f5 := f4.exq e16
        walk_at "k"
        refine g_met ((t3.ext e15).ext e16) fun H17 x17 t17 => ?_
        have f6 := f5.lam nt2 x17
        walk_at "k"
        refine ⟨b, .int h, v', rfl, ask_yes (hb2.ex f6.ex) g h1 h18 hd f6.ex hL fun H18 pa ya e18 npa hpa hya => ?_⟩
        have f7 := f6.exq e18
        walk_at "k"
        refine g_newT (sz (of_decide_eq_true rfl)) fun q1 H19 nq1 e19 hq1 b19 => ?_
        have f8 := f7.exq e19
        have pD := ((Pk.mk htd (e16 _ _ hpd) (prd_mono (fun _ _ z => WayT.ex z e16) hyd)).lam x17).ex (e18.trans e19)
        have pA : Pk K H19 (h - o.sum) (ways R h o) q1 pa ya := ⟨hq1, e19 _ _ hpa, prd_mono (fun _ _ z => WayT.ex z e19) hya⟩
        walk_at "k"
        refine g_new (sz (of_decide_eq_true rfl)) fun fo H20 nfo e20 hfo b20 => ?_
        have f9 := f8.exq e20
        have nfo8 := f8.fresh nfo
        have ne_a : pa ≠ fo := ne_nil pA.p nfo
        have ne_d : pd ≠ fo := ne_nil pD.p nfo
        walk_at "k"
        refine ⟨ty_L hfo, ?_⟩
        walk_at "k"
        refine g_met ((((t17.ext e18).ext e19).ext e20)) fun H21 x21 t21 => ?_
        have f10 := f9.lam nt2 x21
        have pD2 := (pD.ex e20).lam x21
        have pA2 := (pA.ex e20).lam x21
        have hfo21 := x21 _ _ hfo fun ps z => by cases z
        walk_at "k"
        refine g_back ?_
        walk_at "k"
        refine ⟨rfl, b, .int h, v', rfl, ask_yes (hb2.ex f10.ex) g h1 h18 hd f10.ex hL fun H22 pb yb e22 npb hpb hyb => ?_⟩
        have f11 := f10.exq e22
        have ne_b : pb ≠ fo := fun z => by rw [z, hfo21] at npb; cases npb
        have ne_ab : pa ≠ pb := ne_nil pA2.p npb
        refine g_newT (sz (of_decide_eq_true rfl)) fun q2 H23 nq2 e23 hq2 b23 => ?_
        have f12 := f11.exq e23
        have pB : Pk K H23 (h - o.sum) (ways R h o) q2 pb yb := ⟨hq2, e23 _ _ hpb, prd_mono (fun _ _ z => WayT.ex z e23) hyb⟩
        have hfo23 := e23 _ _ (e22 _ _ hfo21)
        have pD3 := (pD2.ex e22).ex e23
        have pA3 := (pA2.ex e22).ex e23
        walk_at "k"
        refine g_app hfo23 (szl (of_decide_eq_true rfl)) fun H24 b24 h24 => ?_
        have x24 : ExB [fo] H23 H24 := fun b o hb z => by rw [b24 b (fun w => hb (by rw [w]; simp))]; exact z
        have f13 : Fr G2 H24 a c (n + i * 11 + 11) := f12.spoil x24 fun b hb => by rw [List.mem_singleton.mp hb]; exact nfo8
        have t24 := tabs_exB ((t21.ext e22).ext e23) x24 fun b hb => by rw [List.mem_singleton.mp hb]; exact ⟨_, hfo23⟩
        walk_at "k"
        with_reducible refine g_ifS ?_
        walk_at "k"
        refine g_new (sz (of_decide_eq_true rfl)) fun du H25 ndu e25 hdu b25 => ?_
        have f14 := f13.exq e25
        have hfo25 := e25 _ _ h24
        have pD4 := (pD3.but b24 hfo23 ne_d).ex e25
        have pA4 := (pA3.but b24 hfo23 ne_a).ex e25
        have pB4 := (pB.but b24 hfo23 ne_b).ex e25
        have wl : (ways R h o).length ≤ 6 := ways_len g
        walk_at "k"
        refine ⟨.ref fo, .ref du, rfl, (sm_lst (d := 4) hfo25 hdu (of_decide_eq_true rfl) (.cons (sm_two (st_of pA4.t) (st_of pD4.t) (sm_ways pA4.p pD4.p pA4.w pD4.w wl)) (.cons (sm_two (st_of pB4.t) (st_of pD4.t) (sm_ways pB4.p pD4.p pB4.w pD4.w wl)) .nil))).up, fun H26 e26 => ?_⟩
        have f15 := f14.exq e26
        have t26 := (t24.ext e25).ext e26
        walk_at "k"
        refine ⟨v', was, rfl, hwas.ex f15.ex, ?_⟩
        walk_at "k"
        rw [show (!decide (was = was)) = false by simp]
        walk_at "k"
        rw [show (!decide (V.ref p = V.non)) = true from rfl]
        walk_at "k"
        have hfo26 := e26 _ _ hfo25
        have pA5 := pA4.ex e26
        have pB5 := pB4.ex e26
        refine g_lcQ (a := fo) (xs := [V.ref q1, V.ref q2]) (G := H26) (fun RR hRR => ?_) (.inl (sq_of hfo26)) (fun _ _ z => z) fun L2 hL2 => ⟨fun j ac H => Ex H26 H ∧ ac = [V.ref pa, V.ref pb].take j, fun H27 b27 e27 _ => ⟨e27, rfl⟩, fun _ _ _ z => z.1, ?_, ?_⟩
        · walk_at "k"
          exact hRR
        · rintro j ac y H27 hy hal hL27 ⟨e27, rfl⟩
          obtain ⟨qj, pj, rfl, hqj, hpj⟩ : ∃ qj pj, y = .ref qj ∧ H26 qj = some (.tup [.str "told", .ref pj]) ∧ [V.ref pa, V.ref pb][j]? = some (.ref pj) := by
            match j, hy with
            | 0, hy => cases hy; exact ⟨q1, pa, rfl, pA5.t, rfl⟩
            | 1, hy => cases hy; exact ⟨q2, pb, rfl, pB5.t, rfl⟩
            | j + 2, hy => simp at hy
          refine g_lcs ?_
          walk_at "k"
          refine ⟨rfl, ?_⟩
          walk_at "k"
          refine g_ixT (st_of (e27 _ _ hqj)) rfl ?_
          refine lcT_of hal (by have := (List.getElem?_eq_some_iff.mp hpj).1; simp only [List.length_cons, List.length_nil] at this; omega) hL27 fun H28 b28 h28 => ⟨ex_but e27 hL2 b28, (take_snoc hpj).symm⟩
        rintro ac H27 hal hL27 ⟨e27, rfl⟩
        have f16 := f15.exq e27
        have nL := f15.fresh hL2
        have na := f6.fresh npa
        have nb := f10.fresh npb
        have pA6 := pA5.ex e27
        have pB6 := pB5.ex e27
        have yl : ya.length ≤ 1000 := by rw [prd_len pA6.w]; omega
        have yl2 : yb.length ≤ 1000 := by rw [prd_len pB6.w]; omega
        have ls : LsS [L2, pa, pb] H27 := fun z hz => by
          simp only [List.mem_cons, List.not_mem_nil, or_false] at hz
          rcases hz with rfl | rfl | rfl
          · exact ⟨_, hL27⟩
          · exact ⟨_, pA6.p⟩
          · exact ⟨_, pB6.p⟩
        have d1 : L2 ≠ pa := (ne_nil pA5.p hL2).symm
        have d2 : L2 ≠ pb := (ne_nil pB5.p hL2).symm
        walk_at "k"
        refine ⟨.ref L2, rfl, .inr (.inr ⟨2, L2, [pa, pb], rfl, rfl, hL27, of_decide_eq_true rfl, ?_, fun z hz => ?_, fun H28 x28 => ?_⟩)⟩
        · simp [d1, d2, ne_ab]
        · simp only [List.mem_cons, List.not_mem_nil, or_false] at hz
          rcases hz with rfl | rfl
          · exact ⟨_, pA6.p, yl, fz_ways pA6.w⟩
          · exact ⟨_, pB6.p, yl2, fz_ways pB6.w⟩
        · have f17 : Fr G2 H28 a c (n + i * 11 + 11) := f16.spoil x28 fun z hz => by
            simp only [List.mem_cons, List.not_mem_nil, or_false] at hz
            rcases hz with rfl | rfl | rfl
            · exact nL
            · exact na
            · exact nb
          walk_at "k"
          exact ⟨_, _, _, _, _, _, _, _, rfl, ⟨g12.trans f17.ex, fj.ga, fj.gc, f17.st.mono (by rw [Nat.succ_mul]; omega)⟩, tabs_exB (t26.ext e27) x28 ls⟩
    · rintro σ H ⟨o6, o7, o8, o9, o10, o11, o12, o13, rfl, fi, ti⟩
      walk_at "k"
      exact q H ⟨gG1.trans fi.ex, f.ga, f.gc, fi.st.mono (by omega)⟩ ti
end
end Tk
namespace Tk
open PySem PySem.Spec PyProof.Rows L2
open Evl (Ex ex_l ex_t ex_rd sq_of st_of fresh_back)
local macro_rules | `(tactic| walk_at "g") => `(tactic| (repeat (first
  | (with_reducible refine g_seq ?_) | (with_reducible refine g_asg ?_) | (with_reducible refine g_name ?_) | (with_reducible refine g_sub ?_)
  | ((with_reducible refine' g_var ?e ?_); (case e => exact rfl)) | (with_reducible refine g_c ?_) | (with_reducible refine g_op ?_) | (with_reducible refine g_un ?_) | (with_reducible refine g_U ?_)
  | (with_reducible refine g_I0 ?_) | (with_reducible refine g_eqI ?_) | (with_reducible refine g_neI ?_) | (with_reducible refine g_eqS ?_) | (with_reducible refine g_neS ?_) | (with_reducible refine g_eqB ?_) | (with_reducible refine g_neB ?_)
  | (with_reducible refine g_test ?_) | (with_reducible refine g_tB ?_) | (with_reducible refine g_bl ?_) | (with_reducible refine g_and ?_) | (with_reducible refine g_or ?_) | (with_reducible refine g_not ?_)
  | (with_reducible refine g_andV ?_) | (with_reducible refine g_orV ?_) | (with_reducible refine g_notV ?_) | (with_reducible refine g_ifE ?_) | (with_reducible refine g_ifS ?_)
  | (with_reducible refine g_next ?_) | (with_reducible refine g_ret ?_) | (with_reducible refine g_drop ?_) | (with_reducible refine g_nil ?_) | (with_reducible refine g_cons ?_) | (with_reducible refine g_call ?_)
  | (with_reducible refine g_cb ?_) | (with_reducible refine g_bm ?_) | (with_reducible refine g_lst ?_) | (with_reducible refine g_tup ?_) | (with_reducible refine iteT ?_) | (with_reducible refine iteF ?_) | (with_reducible refine g_nt ?_) | (with_reducible refine g_nf ?_)
  | (with_reducible refine g_par ?_) | (with_reducible refine g_par3 ?_) | (with_reducible refine g_two ?_) | (with_reducible refine g_three ?_) | (with_reducible refine g_ckw ?_) | (with_reducible refine g_yes ?_) | (with_reducible refine g_chain ?_) | (with_reducible refine g_gnil ?_) | (with_reducible refine g_gcons ?_) | (with_reducible refine g_fld ?_) | (with_reducible refine g_sfld ?_) | (with_reducible refine g_isN ?_) | (with_reducible refine g_nint ?_) | (with_reducible refine g_nintB ?_) | (with_reducible refine g_max ?_) | (with_reducible refine g_min ?_))))
local macro_rules | `(tactic| walk_at "k") => `(tactic| (repeat (first
  | (with_reducible refine g_seq ?_) | (with_reducible refine g_asg ?_) | (with_reducible refine g_name ?_) | (with_reducible refine g_sub ?_)
  | ((with_reducible refine' g_var ?e ?_); (case e => exact rfl)) | (with_reducible refine g_c ?_) | (with_reducible refine g_op ?_) | (with_reducible refine g_un ?_) | (with_reducible refine g_U ?_)
  | (with_reducible refine g_I0 ?_) | (with_reducible refine g_eqI ?_) | (with_reducible refine g_neI ?_) | (with_reducible refine g_eqS ?_) | (with_reducible refine g_neS ?_) | (with_reducible refine g_eqB ?_) | (with_reducible refine g_neB ?_)
  | (with_reducible refine g_test ?_) | (with_reducible refine g_tB ?_) | (with_reducible refine g_bl ?_) | (with_reducible refine g_and ?_) | (with_reducible refine g_or ?_) | (with_reducible refine g_not ?_)
  | (with_reducible refine g_andV ?_) | (with_reducible refine g_orV ?_) | (with_reducible refine g_notV ?_) | (with_reducible refine g_ifE ?_)
  | (with_reducible refine g_next ?_) | (with_reducible refine g_ret ?_) | (with_reducible refine g_drop ?_) | (with_reducible refine g_nil ?_) | (with_reducible refine g_cons ?_) | (with_reducible refine g_call ?_)
  | (with_reducible refine g_cb ?_) | (with_reducible refine g_bm ?_) | (with_reducible refine g_lst ?_) | (with_reducible refine g_tup ?_) | (with_reducible refine iteT ?_) | (with_reducible refine iteF ?_) | (with_reducible refine g_nt ?_) | (with_reducible refine g_nf ?_)
  | (with_reducible refine g_par ?_) | (with_reducible refine g_par3 ?_) | (with_reducible refine g_two ?_) | (with_reducible refine g_three ?_) | (with_reducible refine g_ckw ?_) | (with_reducible refine g_yes ?_) | (with_reducible refine g_chain ?_) | (with_reducible refine g_gnil ?_) | (with_reducible refine g_gcons ?_) | (with_reducible refine g_fld ?_) | (with_reducible refine g_sfld ?_) | (with_reducible refine g_isN ?_) | (with_reducible refine g_nint ?_) | (with_reducible refine g_nintB ?_) | (with_reducible refine g_max ?_) | (with_reducible refine g_min ?_))))
theorem op_inDK (K : PySem.W.Frag) {X : Cx} (hu : X.A.units + 65 < cLine) (h : X.K = K := by rfl) : OpR X (compareOp .In) (rInD K) := by
  subst h
  exact op_inD hu
theorem op_eqDK (K : PySem.W.Frag) {X : Cx} (hu : X.A.units + 64 < cLine) (h : X.K = K := by rfl) : OpR X (compareOp .Eq) (rEqD K) := by
  subst h
  exact op_eqD hu
/-! ### all options of the heaps to a number -/
def Ev (K : PySem.W.Frag) (N : Hp) (v : V) (os : List (List Int)) : Prop := ∃ p ys, v = .ref p ∧ SqL K N p ys ∧ Paired (LiN K N) ys os
theorem Ev.ex {K : PySem.W.Frag} {N N' : Hp} {v : V} {os : List (List Int)} (h : Ev K N v os) (e : Ex N N') : Ev K N' v os := by
  obtain ⟨p, ys, rfl, h1, h2⟩ := h
  exact ⟨p, ys, rfl, ex_l e h1, prd_mono (fun _ _ z => z.ex e) h2⟩
theorem ex_dd {H H' : Hp} {p : Addr} (e : Ex H H') : Ex (del H p) (del H' p) := fun q o z => by
  by_cases hq : q = p
  · rw [hq, del_same] at z
    cases z
  · rw [del_ne hq] at z ⊢
    exact e q o z
theorem new_but {H H1 H2 : Hp} {L : Addr} (b : But L H1 H2) : Ex (del (newH H H1) L) (del (newH H H2) L) := fun q o z => by
  by_cases hq : q = L
  · rw [hq, del_same] at z
    cases z
  · rw [del_ne hq] at z ⊢
    cases z0 : H q with
    | none =>
      rw [new_none z0] at z ⊢
      rw [b q hq]
      exact z
    | some u =>
      rw [new_some z0] at z ⊢
      exact z
theorem new_sub {H H1 H2 : Hp} {L : Addr} {ac : List V} (h1 : Ex H H1) (h2 : Ex H1 H2) (hL : H1 L = some (.lst ac)) : Ex (newH H1 H2) (del (newH H H2) L) :=
  ex_del (new_23 (S := []) (exB_of h1) lsS_nil lsS_nil (exB_of h2)) (by rw [new_some hL]; rfl)
theorem sqL_new {K : PySem.W.Frag} {H H' : Hp} {a c p : Addr} {n : Nat} {xs : List V} (h : SqL K (newH H H') p xs) (e : ExB [a, c] H H') (s : StA H a c n) : SqL K (gh a c H') p xs := by
  have ne : ∀ o, newH H H' p = some o → (∀ ps, o ≠ .tbl ps) → gh a c H' p = some o := fun o z y => gh_of (new_ex e s.ls p o z) y (fun w => by
    rw [w, new_S s.ls (by simp)] at z
    cases z) (fun w => by
    rw [w, new_S s.ls (by simp)] at z
    cases z)
  rcases h with (h | ⟨o, h⟩) | h
  · exact .inl (.inl (ne _ h fun ps z => by cases z))
  · exact .inl (.inr ⟨o, ne _ h fun ps z => by cases z⟩)
  · exact .inr h
theorem LiN.gh {K : PySem.W.Frag} {H H' : Hp} {a c : Addr} {n : Nat} {v : V} {o : List Int} (h : LiN K (newH H H') v o) (e : ExB [a, c] H H') (s : StA H a c n) : LiN K (gh a c H') v o := by
  obtain ⟨b, rfl, h⟩ := h
  exact ⟨b, rfl, sqL_new h e s⟩
theorem Ev.gh {K : PySem.W.Frag} {H H' : Hp} {a c : Addr} {n : Nat} {v : V} {os : List (List Int)} (h : Ev K (newH H H') v os) (e : ExB [a, c] H H') (s : StA H a c n) : Ev K (gh a c H') v os := by
  obtain ⟨p, ys, rfl, h1, h2⟩ := h
  exact ⟨p, ys, rfl, sqL_new h1 e s, prd_mono (fun _ _ z => z.gh e s) h2⟩
/-- lists of like ints -/
theorem sm_ints {K : PySem.W.Frag} {H : Hp} {p q : Addr} {ns : List Int} {d : Nat} (hp : SqL K H p (ns.map V.int)) (hq : SqL K H q (ns.map V.int)) (hl : ns.length ≤ 1000) : Sm K H (d + 1) (.ref p) (.ref q) := by
  refine .inr (.inl ⟨p, q, _, _, rfl, rfl, hp, hq, by rw [List.length_map]; exact hl, ?_⟩)
  clear hp hq hl
  induction ns with
  | nil => exact .nil
  | cons n ns ih =>
    refine .cons ?_ ih
    cases d with
    | zero => exact ⟨rfl, .inr (.inr (.inl ⟨n, rfl⟩))⟩
    | succ d => exact .inl ⟨rfl, .inr (.inr (.inl ⟨n, rfl⟩))⟩
theorem upf_len {m : Nat} {p : Int → Bool} : ((upTo m).filter p).length ≤ m := Nat.le_trans (List.length_filter_le _ _) (by rw [up_len]; exact Nat.le_refl _)
theorem fz_ints {K : PySem.W.Frag} {H : Hp} {ns : List Int} : ∀ x ∈ ns.map V.int, Fz K H 0 x := fun x hx => by
  obtain ⟨i, _, rfl⟩ := List.mem_map.mp hx
  exact .inr (.inr (.inl ⟨i, rfl⟩))
theorem prd_mem {α β : Type} {P : α → β → Prop} {xs : List α} {ys : List β} (h : Paired P xs ys) {x : α} (hx : x ∈ xs) : ∃ y ∈ ys, P x y := by
  obtain ⟨i, hi, e⟩ := List.mem_iff_getElem.mp hx
  obtain ⟨y, hy, q⟩ := prd_get h (List.getElem?_eq_some_iff.mpr ⟨hi, e⟩)
  exact ⟨y, List.mem_of_getElem? hy, q⟩
theorem gh_mono {a c : Addr} {H H' : Hp} (x : ExB [a, c] H H') : Ex (gh a c H) (gh a c H') := fun b o z => by
  by_cases h1 : b = a
  · rw [h1, gh_a] at z
    cases z
  · by_cases h2 : b = c
    · rw [h2, gh_c] at z
      cases z
    · exact gh_of (exB_at x (gh_ex b o z) h1 h2) (fun ps y => gh_no a c H b ps (y ▸ z)) h1 h2
theorem gh_del {a c p : Addr} {H H' : Hp} (b : But p H H') : Ex (del (gh a c H) p) (del (gh a c H') p) := fun q o z => by
  by_cases hq : q = p
  · rw [hq, del_same] at z
    cases z
  · rw [del_ne hq] at z ⊢
    by_cases h1 : q = a
    · rw [h1, gh_a] at z
      cases z
    · by_cases h2 : q = c
      · rw [h2, gh_c] at z
        cases z
      · exact gh_of (by rw [b q hq]; exact gh_ex q o z) (fun ps y => gh_no a c H q ps (y ▸ z)) h1 h2
def spBack (K : PySem.W.Frag) : Sp := fun vs H Q _ => ∃ (G : Hp) (a c l : Addr) (b : V) (n m : Nat) (xs : List V) (R : List Rl), vs = [.ref a, .ref l, b, .int m] ∧ Fr G H a c n ∧ NoTb G ∧ LamX.Tabs (TLs K) H ∧ n + 300 < 1000000000 ∧
  SqL K G l xs ∧ Paired (RuleT K G) xs R ∧ Goods R ∧ BookAt K G b R ∧ 1 ≤ m ∧ m ≤ 30 ∧
  ∀ H', Fr G H' a c (n + 300) → LamX.Tabs (TLs K) H' → Q (.bl true) H'
section
variable {P : Program} {w : World} {K : PySem.W.Frag} {mg : Str → Option Value} {base : Heap}
theorem sc_w_back_right : FnScope ["_law_stream", "_law_raw", "_law_made", "_law_most", "_law_every", "_law_some", "_law_due", "_law_found", "_law_turn", "_law_here", "_law_option", "_law_handed", "_law_few", "_law_heap", "_law_at"] ["_law_stream", "_law_raw", "_law_made", "_law_most"] (defScope st_w_back_right) := ⟨rfl, rfl, rfl, by decide +kernel, rfl, by decide +kernel, by decide +kernel⟩
theorem ok_w_back_right (T : Txt K mg) : Kept P w K mg base CX0 9 "_law_back_right" ["_law_stream", "_law_raw", "_law_made", "_law_most"] (spBack K) := by
  have G_w_loose := (ok_w_loose (P := P) (w := w) (base := base) T 2).imp loose_imp
  have G_w_a_options := ok_w_a_options (P := P) (w := w) (base := base) T
  have G_w_draw := ok_w_draw (P := P) (w := w) (base := base) T
  have G_w_pick := ok_w_pick (P := P) (w := w) (base := base) T
  have G_w_same := ok_w_same (P := P) (w := w) (base := base) T 4
  have G_w_a_spoiled := ok_w_a_spoiled (P := P) (w := w) (base := base) T 2
  have G_ends := ok_ends (P := P) (w := w) (base := base) T
  have G_heaps_from := ok_heaps_from (P := P) (w := w) (base := base) T
  refine kept0 T.d_w_back_right sc_w_back_right (fun vs H Q E h => ?_) (fun cdv A outer s H0 vs Q E hr h => ?_)
  · obtain ⟨G, a, c, l, b, n, m, xs, R, rfl, _⟩ := h
    rfl
  · obtain ⟨G, a, c, l, b, n, m, xs, R, rfl, f, nt, tb, hn, hl, hR, g, hbk, m1, m30, q⟩ := h
    refine ⟨_, (pss_cons (ps_setLc (i := 4) rfl (own := [("_law_heap", 13)]) sc_w_back_right.nd rfl rfl (sw_true rfl rfl rfl (by decide +kernel)) (pi_range2 (by rfl) T.f_range (pa_cons pe_int (pa_cons (pe_op op_add (pv 3) pe_int) pa_nil))) (blkOk_by (own := [("_law_heap", 13)]) (N := ["_law_stream", "_law_raw", "_law_made", "_law_most", "_law_every", "_law_some", "_law_due", "_law_found", "_law_turn", "_law_here", "_law_option", "_law_handed", "_law_few", "_law_heap", "_law_at"]) (sc := defScope st_w_back_right) (by decide +kernel)) (fun _ _ _ _ _ => (pg_name (i := 13) sc_w_back_right.nd rfl (Or.inl rfl))) (fun _ _ _ _ _ => pts_nil) (fun _ _ _ _ _ => (pe_c G_w_a_options (hr.mono (by decide)) pass0 (pa_cons (pv 1) (pa_cons (pv 13) pa_nil)))))
      (pss_cons (ps_setLc (i := 6) rfl (own := [("_law_heap", 13), ("_law_some", 5)]) sc_w_back_right.nd rfl rfl (sw_true rfl rfl rfl (by decide +kernel)) (pi_enumQ (by rfl) T.f_enumerate (pa_cons (pv 4) pa_nil)) (blkOk_by (own := [("_law_heap", 13), ("_law_some", 5)]) (N := ["_law_stream", "_law_raw", "_law_made", "_law_most", "_law_every", "_law_some", "_law_due", "_law_found", "_law_turn", "_law_here", "_law_option", "_law_handed", "_law_few", "_law_heap", "_law_at"]) (sc := defScope st_w_back_right) (by decide +kernel)) (fun _ _ _ _ _ => (pg_tupK K (n := 2) rfl (pgs_cons (pg_name (i := 13) sc_w_back_right.nd rfl (Or.inl rfl)) (pgs_cons (pg_name (i := 5) sc_w_back_right.nd rfl (Or.inl rfl)) pgs_nil)))) (fun _ _ _ _ _ => (pts_one (pt_cmpR (op_eqDK K hr.units) (pv 5) (pe_lst pa_nil) (nomark _)))) (fun _ _ _ _ _ => (pe_op op_add (pv 13) pe_int)))
      (pss_cons (ps_set (i := 7) sc_w_back_right.nd rfl (Or.inl rfl) (pe_lst (pa_cons (pe_c G_ends (hr.mono (by decide)) passF (pa_cons (pv 2) (pa_cons (pv 3) pa_nil))) (pa_cons (pe_ck G_ends (KW_ends T) (hr.mono (by decide)) passF (pk_cons (pv 3) (pk_cons (pv 2) pk_nil))) (pa_cons (pe_c G_ends (hr.mono (by decide)) passF (pa_cons (pv 2) (pa_cons pe_int pa_nil))) pa_nil)))))
      (pss_cons (ps_if (pt_not (pt_val (pe_c G_w_same (hr.mono (by decide)) pass0 (pa_cons (pv 7) (pa_cons (pe_lst (pa_cons (pv 6) (pa_cons (pv 6) (pa_cons (pe_lst pa_nil) pa_nil)))) pa_nil))))) (pss_one (ps_ret pe_bl)) pss_nil)
      (pss_cons (ps_expr (pe_c G_w_a_spoiled (hr.mono (by decide)) pass0 (pa_cons (pv 7) pa_nil)))
      (pss_cons (ps_set (i := 5) sc_w_back_right.nd rfl (Or.inl rfl) (pe_lst (pa_cons (pe_lst pa_nil) (pa_cons (pe_lst (pa_cons pe_int pa_nil)) (pa_cons (pe_lst (pa_cons (pe_op op_add pe_int (pe_c G_w_draw (hr.mono (by decide)) pass0 (pa_cons (pv 0) (pa_cons (pe_op op_add (pv 3) pe_int) pa_nil)))) pa_nil)) (pa_cons (pe_lst (pa_cons pe_int (pa_cons pe_int pa_nil))) (pa_cons (pe_lst (pa_cons pe_int (pa_cons (pe_op op_add (pe_op op_add pe_int (pe_c G_w_draw (hr.mono (by decide)) pass0 (pa_cons (pv 0) (pa_cons (pe_op op_add (pv 3) pe_int) pa_nil)))) pe_int) pa_nil))) (pa_cons (pe_lst (pa_cons (pe_op op_pow pe_int pe_int) pa_nil)) pa_nil))))))))
      (pss_cons (ps_for PassesOwn.never rfl (pi_range1 (by rfl) T.f_range (pa_cons pe_int pa_nil)) (pg_name (i := 8) sc_w_back_right.nd rfl (Or.inl rfl)) (pss_cons (ps_set (i := 9) sc_w_back_right.nd rfl (Or.inl rfl) (pe_ix ix_list (pv 4) (pe_c G_w_draw (hr.mono (by decide)) pass0 (pa_cons (pv 0) (pa_cons (pv 3) pa_nil))) (fun _ _ => rfl)))
      (pss_one (ps_expr (pe_bmK K PySem.F.plainAttrs_list PySem.F.slot_list_extend PySem.F.type_list_extend mt_extend (pv 5) (pa_cons (pe_ifExp (pt_cmpR (op_neD hr.units) (pv 9) (pe_lst pa_nil) (nomark _)) (pe_lst (pa_cons (pe_c G_w_pick (hr.mono (by decide)) pass0 (pa_cons (pv 0) (pa_cons (pv 9) pa_nil))) pa_nil)) (pe_lst pa_nil)) pa_nil))))))
      (pss_cons (ps_for PassesOwn.never rfl (pi_q (pv 5)) (pg_name (i := 10) sc_w_back_right.nd rfl (Or.inr rfl)) (pss_cons (ps_par (i := 11) (j := 6) rfl sc_w_back_right.nd rfl rfl (by decide) rfl rfl (pa_cons (pe_c G_w_loose (hr.mono (by decide)) pass0 (pa_cons (pv 0) (pa_cons (pv 10) pa_nil))) (pa_cons (pe_lc rfl (own := [("_law_at", 14), ("_law_here", 9)]) sc_w_back_right.nd (pi_enumQ (by rfl) T.f_enumerate (pa_cons (pv 4) pa_nil)) (blkOk_by (own := [("_law_at", 14), ("_law_here", 9)]) (N := ["_law_stream", "_law_raw", "_law_made", "_law_most", "_law_every", "_law_some", "_law_due", "_law_found", "_law_turn", "_law_here", "_law_option", "_law_handed", "_law_few", "_law_heap", "_law_at"]) (sc := defScope st_w_back_right) (by decide +kernel)) (fun _ _ _ _ _ => (pg_tupK K (n := 2) rfl (pgs_cons (pg_name (i := 14) sc_w_back_right.nd rfl (Or.inl rfl)) (pgs_cons (pg_name (i := 9) sc_w_back_right.nd rfl (Or.inl rfl)) pgs_nil)))) (fun _ _ _ _ _ => (pts_one (pt_cmpR (op_inDK K (units_of hr)) (pv 10) (pv 9) (by rfl)))) (fun _ _ _ _ _ => (pe_op op_add (pv 14) pe_int))) pa_nil)) rfl)
      (pss_cons (ps_set (i := 7) sc_w_back_right.nd rfl (Or.inl rfl) (pe_lst (pa_cons (pe_c G_heaps_from (hr.mono (by decide)) passF (pa_cons (pv 2) (pa_cons (pv 11) (pa_cons (pv 3) pa_nil)))) (pa_cons (pe_ck G_heaps_from (KW_heaps_from T) (hr.mono (by decide)) passF (pk_cons (pv 3) (pk_cons (pv 11) (pk_cons (pv 2) pk_nil)))) pa_nil))))
      (pss_cons (ps_if (pt_not (pt_val (pe_c G_w_same (hr.mono (by decide)) pass0 (pa_cons (pv 7) (pa_cons (pe_lst (pa_cons (pv 6) (pa_cons (pv 6) pa_nil))) pa_nil))))) (pss_one (ps_ret pe_bl)) pss_nil)
      (pss_cons (ps_expr (pe_c G_w_a_spoiled (hr.mono (by decide)) pass0 (pa_cons (pv 7) pa_nil)))
      (pss_cons (ps_set (i := 12) sc_w_back_right.nd rfl (Or.inr rfl) (pe_c G_w_draw (hr.mono (by decide)) pass0 (pa_cons (pv 0) (pa_cons (pe_op op_add (pv 3) pe_int) pa_nil))))
      (pss_one (ps_if (pt_not (pt_val (pe_c G_w_same (hr.mono (by decide)) pass0 (pa_cons (pe_c G_heaps_from (hr.mono (by decide)) passF (pa_cons (pv 2) (pa_cons (pv 11) (pa_cons (pv 12) pa_nil)))) (pa_cons (pe_lc rfl (own := [("_law_heap", 13)]) sc_w_back_right.nd (pi_q (pv 6)) (blkOk_by (own := [("_law_heap", 13)]) (N := ["_law_stream", "_law_raw", "_law_made", "_law_most", "_law_every", "_law_some", "_law_due", "_law_found", "_law_turn", "_law_here", "_law_option", "_law_handed", "_law_few", "_law_heap", "_law_at"]) (sc := defScope st_w_back_right) (by decide +kernel)) (fun _ _ _ _ _ => (pg_name (i := 13) sc_w_back_right.nd rfl (Or.inl rfl))) (fun _ _ _ _ _ => (pts_one (pt_cmpR op_le (pv 13) (pv 12) (nomark _)))) (fun _ _ _ _ _ => (pv 13))) pa_nil))))) (pss_one (ps_ret pe_bl)) pss_nil))))))))
      (pss_one (ps_ret pe_bl)))))))))), ?_⟩
    walk_at "k"
    refine g_lcR2 (lo := 1) (hi := (m : Int) + 1) (fun RR hRR => ?_) ⟨by omega, by omega, by omega, by omega⟩ fun L hL => ⟨fun i ac H => Ex H0 H ∧ ∃ OS : List (List (List Int)), OS.length = i ∧ Paired (Ev K (del (newH H0 H) L)) ac OS ∧ ∀ (j : Nat) os, OS[j]? = some os → OptsOk R (1 + (j : Int)) os ∧ os.length ≤ 1000, fun H1 b1 e1 _ => ⟨e1, [], rfl, .nil, fun j os z => by simp at z⟩, ?_, ?_⟩
    · walk_at "k"
      exact hRR
    · rintro i ac H1 hi hal hL1 ⟨e1, OS, hO, hP, hK⟩
      refine g_lcs ?_
      walk_at "k"
      refine ⟨rfl, ?_⟩
      walk_at "k"
      refine ⟨l, xs, R, 1 + (i : Int), rfl, ex_l (f.ex.trans e1) hl, prd_mono (fun _ _ z => RuleT.ex z (f.ex.trans e1)) hR, g, by omega, by omega, fun H2 p ys os e2 np hp hys hk hlen => ?_⟩
      refine lcT_of hal (by omega) (e2 _ _ hL1) fun H3 b3 h3 => ⟨ex_but (e1.trans e2) hL b3, OS ++ [os], by rw [List.length_append, hO]; rfl, ?_, ?_⟩
      · have hpL : p ≠ L := fun z => by rw [z, hL1] at np; cases np
        have nL := new_sub e1 e2 hL1
        have nb := new_but (H := H0) b3
        refine prd_app (prd_mono (fun _ _ z => (z.ex (ex_dd (new_12 (S := []) (exB_of e1) lsS_nil (exB_of e2)))).ex nb) hP) (.cons (Ev.ex ⟨p, ys, rfl, ?_, prd_mono (fun _ _ z => z.ex nL) hys⟩ nb) .nil)
        exact sq_of (by rw [del_ne hpL, new_none (none_ex e1 np)]; exact hp)
      · intro j os' hj
        rcases Nat.lt_or_ge j OS.length with h | h
        · rw [List.getElem?_append_left h] at hj
          exact hK j os' hj
        · rw [List.getElem?_append_right h] at hj
          have h0 := (List.getElem?_eq_some_iff.mp hj).1
          simp only [List.length_cons, List.length_nil] at h0
          have h1 : j = i := by omega
          have h2 : j - OS.length = 0 := by omega
          rw [h2] at hj
          cases hj
          rw [h1]
          exact ⟨hk, hlen⟩
    rintro ac H1 hal hL1 ⟨e1, OS, hO, hP, hK⟩
    have hOm : OS.length = m := by omega
    have x1 := exB_of (S := [a, c]) e1
    have f1 := f.exq e1
    obtain ⟨G1, hG1⟩ : ∃ G1, G1 = gh a c H1 := ⟨_, rfl⟩
    have hP1 : Paired (Ev K G1) ac OS := by
      rw [hG1]
      exact prd_mono (fun _ _ z => (z.ex del_ex).gh x1 f.st) hP
    have hLG : G1 L = some (.lst ac) := by
      rw [hG1]
      exact gh_new f.st hL hL1 (fun ps z => by cases z)
    have gG1 : Ex G G1 := by
      rw [hG1]
      exact f1.gh nt
    have fr1 : Fr G1 H1 a c n := by
      rw [hG1]
      exact fr_gh f1.st
    have nt1 : NoTb G1 := by
      rw [hG1]
      exact gh_no _ _ _
    have hac : ac.length = m := by
      rw [prd_len hP1]
      exact hOm
    walk_at "k"
    refine g_lcE (a := L) (xs := ac) (G := G1) (fun RR hRR => ?_) (.inl (sq_of hLG)) fr1.ex fun L2 hL2 => ⟨fun i bc H => Ex H1 H ∧ bc = (((upTo m).take i).filter (endB R)).map V.int, fun H2 b2 e2 _ => ⟨e2, by rw [List.take_zero]; rfl⟩, fun _ _ _ z => fr1.ex.trans z.1, ?_, ?_⟩
    · walk_at "k"
      exact hRR
    · rintro i bc x H2 Tp H3 hx hal2 hLi ⟨e2, rfl⟩ nT e3 hT b3
      have hi : i < m := by
        have := (List.getElem?_eq_some_iff.mp hx).1
        omega
      obtain ⟨os, hos, p, ys, rfl, hp, hys⟩ := prd_get hP1 hx
      obtain ⟨hk, hlen⟩ := hK i os hos
      have ex13 := fr1.ex.trans (e2.trans e3)
      refine g_lcs ?_
      walk_at "k"
      refine g_gtup (st_of hT) rfl ?_
      walk_at "k"
      refine ⟨rfl, ?_⟩
      walk_at "k"
      refine g_new (sz (of_decide_eq_true rfl)) fun en H4 nen e4 hen b4 => ?_
      have ex14 := ex13.trans e4
      have hL4 := e4 _ _ (e3 _ _ hLi)
      have e14 := (e2.trans e3).trans e4
      refine g_eqNil (c := decide (os = [])) (.lst (ex_l ex14 hp) (dp_lins (prd_mono (fun _ _ z => z.ex ex14) hys))) (ods_shaped os) (sq_of hen) (by cases os <;> simp) ?_
      walk_at "k"
      have hend : os = [] ↔ endB R (1 + (i : Int)) = true := (opts_ended hk).trans (ended_iff g.good)
      by_cases he : os = []
      · rw [decide_eq_true he]
        walk_at "k"
        refine lcT_of hal2 (by omega) hL4 fun H5 b5 h5 => ⟨ex_but e14 hL2 b5, ?_⟩
        rw [up_take_snoc hi, if_pos (hend.mp he), List.map_append, Int.add_comm]
        rfl
      · rw [decide_eq_false he]
        walk_at "k"
        refine ⟨_, by omega, hL4, e14, ?_⟩
        rw [up_take_snoc hi, if_neg (fun z => he (hend.mpr z)), List.append_nil]
    rintro bc H2 hbl hL2b ⟨e2, rfl⟩
    rw [hac, List.take_of_length_le (by rw [up_len]; exact Nat.le_refl _)] at hL2b
    change H2 L2 = some (.lst ((endsOf R m).map V.int)) at hL2b
    walk_at "k"
    have fr2 := fr1.exq e2
    refine ⟨b, .int m, rfl, .inr ⟨R, (hbk.ex gG1).ex fr2.ex, g, .inr ⟨m, rfl, by omega, fun H3 q1 e3 nq1 hq1 => ?_⟩⟩⟩
    have fr3 := fr2.exq e3
    walk_at "k"
    refine g_back ?_
    walk_at "k"
    refine ⟨rfl, b, .int m, rfl, .inr ⟨R, (hbk.ex gG1).ex fr3.ex, g, .inr ⟨m, rfl, by omega, fun H4 q2 e4 nq2 hq2 => ?_⟩⟩⟩
    have fr4 := fr3.exq e4
    walk_at "k"
    refine ⟨b, .int ((0 : Nat) : Int), rfl, .inr ⟨R, (hbk.ex gG1).ex fr4.ex, g, .inr ⟨0, rfl, by omega, fun H5 q3 e5 nq3 hq3 => ?_⟩⟩⟩
    have fr5 := fr4.exq e5
    walk_at "k"
    refine g_new (sz (of_decide_eq_true rfl)) fun fo H6 nfo e6 hfo b6 => ?_
    walk_at "k"
    with_reducible refine g_ifS ?_
    walk_at "k"
    refine g_new (sz (of_decide_eq_true rfl)) fun q4 H7 nq4 e7 hq4 b7 => ?_
    walk_at "k"
    refine g_new (sz (of_decide_eq_true rfl)) fun du H8 ndu e8 hdu b8 => ?_
    walk_at "k"
    have k8 : Ex H6 H8 := e7.trans e8
    have k6 : Ex H5 H8 := e6.trans k8
    have k5 : Ex H4 H8 := e5.trans k6
    have k4 : Ex H3 H8 := e4.trans k5
    have k3 : Ex H2 H8 := e3.trans k4
    have fr8 := fr2.exq k3
    have hel : (endsOf R m).length ≤ 1000 := Nat.le_trans upf_len (by omega)
    refine ⟨.ref fo, .ref du, rfl, sm_lst (d := 3) (k8 _ _ hfo) hdu (of_decide_eq_true rfl) (.cons (sm_ints (sq_of (k4 _ _ hq1)) (sq_of (k3 _ _ hL2b)) hel) (.cons (sm_ints (sq_of (k5 _ _ hq2)) (sq_of (k3 _ _ hL2b)) hel) (.cons (sm_ints (ns := []) (sq_of (k6 _ _ hq3)) (sq_of (e8 _ _ hq4)) (by decide)) .nil))), fun H9 e9 => ?_⟩
    have fr9 := fr8.exq e9
    walk_at "k"
    have n12 : q1 ≠ q2 := ne_nil hq1 nq2
    have n13 : q1 ≠ q3 := ne_nil (e4 _ _ hq1) nq3
    have n23 : q2 ≠ q3 := ne_nil hq2 nq3
    have nf1 : fo ≠ q1 := (ne_nil (e5 _ _ (e4 _ _ hq1)) nfo).symm
    have nf2 : fo ≠ q2 := (ne_nil (e5 _ _ hq2) nfo).symm
    have nf3 : fo ≠ q3 := (ne_nil hq3 nfo).symm
    have hfo9 := e9 _ _ (k8 _ _ hfo)
    have hq19 := e9 _ _ (k4 _ _ hq1)
    have hq29 := e9 _ _ (k5 _ _ hq2)
    have hq39 := e9 _ _ (k6 _ _ hq3)
    have w1 := fr2.fresh nq1
    have w2 := fr3.fresh nq2
    have w3 := fr4.fresh nq3
    have w4 := fr5.fresh nfo
    have t9 := tb.ext (e1.trans (e2.trans (k3.trans e9)))
    have ls9 : LsS [fo, q1, q2, q3] H9 := fun z hz => by
      simp only [List.mem_cons, List.not_mem_nil, or_false] at hz
      rcases hz with rfl | rfl | rfl | rfl
      · exact ⟨_, hfo9⟩
      · exact ⟨_, hq19⟩
      · exact ⟨_, hq29⟩
      · exact ⟨_, hq39⟩
    refine ⟨.ref fo, rfl, .inr (.inr ⟨0, fo, [q1, q2, q3], rfl, rfl, hfo9, of_decide_eq_true rfl, ?_, fun z hz => ?_, fun H10 x10 => ?_⟩)⟩
    · simp [n12, n13, n23, nf1, nf2, nf3]
    · simp only [List.mem_cons, List.not_mem_nil, or_false] at hz
      rcases hz with rfl | rfl | rfl
      · exact ⟨_, hq19, by rw [List.length_map]; exact hel, fz_ints⟩
      · exact ⟨_, hq29, by rw [List.length_map]; exact hel, fz_ints⟩
      · exact ⟨_, hq39, of_decide_eq_true rfl, fz_ints⟩
    have fr10 : Fr G1 H10 a c n := fr9.spoil x10 fun z hz => by
      simp only [List.mem_cons, List.not_mem_nil, or_false] at hz
      rcases hz with rfl | rfl | rfl | rfl
      · exact w4
      · exact w1
      · exact w2
      · exact w3
    have t10 := tabs_exB t9 x10 ls9
    walk_at "k"
    refine g_new (sz (of_decide_eq_true rfl)) fun s1 H11 ns1 e11 hs1 b11 => ?_
    walk_at "k"
    refine g_new (sz (of_decide_eq_true rfl)) fun s2 H12 ns2 e12 hs2 b12 => ?_
    walk_at "k"
    have fr12 := (fr10.exq e11).exq e12
    refine ⟨a, c, n, (m : Int) + 1, rfl, by omega, by omega, fr12.st, by omega, fun H13 d1 x13 s13 d10 d1m => ?_⟩
    have fr13 := fr12.nx x13 s13
    walk_at "k"
    refine g_new (sz (of_decide_eq_true rfl)) fun s3 H14 ns3 e14 hs3 b14 => ?_
    walk_at "k"
    refine g_new (sz (of_decide_eq_true rfl)) fun s4 H15 ns4 e15 hs4 b15 => ?_
    walk_at "k"
    have fr15 := (fr13.exq e14).exq e15
    refine ⟨a, c, n + 1, (m : Int) + 1, rfl, by omega, by omega, fr15.st, by omega, fun H16 d2 x16 s16 d20 d2m => ?_⟩
    have fr16 := fr15.nx x16 s16
    walk_at "k"
    refine g_new (sz (of_decide_eq_true rfl)) fun s5 H17 ns5 e17 hs5 b17 => ?_
    walk_at "k"
    refine g_I (by unfold CPow; decide) ?_
    walk_at "k"
    refine g_new (sz (of_decide_eq_true rfl)) fun s6 H18 ns6 e18 hs6 b18 => ?_
    walk_at "k"
    refine g_new (sz (of_decide_eq_true rfl)) fun so H19 nso e19 hso' b19 => ?_
    walk_at "k"
    have y18 : Ex H16 H18 := e17.trans e18
    have c16 : ∀ {p : Addr} {ys : List V}, p ≠ a ∧ p ≠ c → H15 p = some (.lst ys) → H18 p = some (.lst ys) := fun hp h => y18 _ _ (exB_at x16 h hp.1 hp.2)
    have c13 : ∀ {p : Addr} {ys : List V}, p ≠ a ∧ p ≠ c → H12 p = some (.lst ys) → H18 p = some (.lst ys) := fun hp h => c16 hp (e15 _ _ (e14 _ _ (exB_at x13 h hp.1 hp.2)))
    have fr18 := (fr16.exq e17).exq e18
    have fr19 := fr18.exq e19
    have wso := fr18.fresh nso
    have mk : ∀ {p : Addr} {ys : List V}, p ≠ a ∧ p ≠ c → H18 p = some (.lst ys) → del (gh a c H19) so p = some (.lst ys) := fun h1 h => by
      rw [del_ne (ne_nil h nso)]
      exact gh_of (e19 _ _ h) (fun ps z => by cases z) h1.1 h1.2
    have t19 : LamX.Tabs (TLs K) H19 := (tabs_exB ((tabs_exB ((t10.ext e11).ext e12) x13 fr12.st.ls).ext (e14.trans e15)) x16 fr15.st.ls).ext (y18.trans e19)
    have a1 := (fr10.fresh ns1).2
    have a2 := ((fr10.exq e11).fresh ns2).2
    have a3 := (fr13.fresh ns3).2
    have a4 := ((fr13.exq e14).fresh ns4).2
    have a5 := (fr16.fresh ns5).2
    have a6 := ((fr16.exq e17).fresh ns6).2
    have P0 : Paired (LiN K (del (gh a c H19) so)) [V.ref s1, V.ref s2, V.ref s3, V.ref s4, V.ref s5, V.ref s6] [[], [1], [1 + d1], [1, 1], [2, 1 + d2 + 1], [10 ^ 18]] :=
      .cons ⟨s1, rfl, sq_of (mk a1 (c13 a1 (e12 _ _ hs1)))⟩ (.cons ⟨s2, rfl, sq_of (mk a2 (c13 a2 hs2))⟩ (.cons ⟨s3, rfl, sq_of (mk a3 (c16 a3 (e15 _ _ hs3)))⟩ (.cons ⟨s4, rfl, sq_of (mk a4 (c16 a4 hs4))⟩ (.cons ⟨s5, rfl, sq_of (mk a5 (e18 _ _ hs5))⟩ (.cons ⟨s6, rfl, sq_of (mk a6 hs6)⟩ .nil)))))
    have O0 : ∀ o ∈ ([[], [1], [1 + d1], [1, 1], [2, 1 + d2 + 1], [10 ^ 18]] : List (List Int)), OrdI o := by
      have one : ∀ i : Int, 1 ≤ i → i ≤ 10 ^ 18 → OrdI [i] := fun i h1 h2 => ⟨⟨by simp, fun x hx => by rw [List.mem_singleton.mp hx]; exact ⟨h1, h2⟩⟩, List.pairwise_singleton _ _⟩
      have two : ∀ i j : Int, 1 ≤ i → i ≤ j → j ≤ 10 ^ 18 → OrdI [i, j] := fun i j h1 h2 h3 => by
        refine ⟨⟨by simp, fun x hx => ?_⟩, List.pairwise_cons.mpr ⟨fun x hx => by rw [List.mem_singleton.mp hx]; exact h2, List.pairwise_singleton _ _⟩⟩
        simp only [List.mem_cons, List.not_mem_nil, or_false] at hx
        rcases hx with rfl | rfl <;> omega
      intro o ho
      simp only [List.mem_cons, List.not_mem_nil, or_false] at ho
      rcases ho with rfl | rfl | rfl | rfl | rfl | rfl
      · exact ⟨⟨by decide, fun x hx => by cases hx⟩, .nil⟩
      · exact one 1 (by decide) (by decide)
      · exact one _ (by omega) (by omega)
      · exact two 1 1 (by decide) (by decide) (by decide)
      · exact two _ _ (by omega) (by omega) (by omega)
      · exact one _ (by decide) (by decide)
    refine g_forR1 (n := 4) (fun RR hRR => ?_) (by decide) (by decide) (fun i σ H => ∃ (o8 o9 : Option V) (acc : List V) (OO : List (List Int)),
      σ = [some (.ref a), some (.ref l), some b, some (.int m), some (.ref L), some (.ref so), some (.ref L2), some (.ref fo), o8, o9, none, none, none, none, none] ∧ Fr G1 H a c (n + 2 + 2 * i) ∧ LamX.Tabs (TLs K) H ∧ H so = some (.lst acc) ∧ Paired (LiN K (del (gh a c H) so)) acc OO ∧ (∀ o ∈ OO, OrdI o) ∧ acc.length ≤ 6 + i) ?_ ?_ ?_
    · walk_at "k"
      exact hRR
    · exact ⟨none, none, _, _, rfl, fr19, t19, hso', P0, O0, by simp⟩
    · rintro i σ H hi ⟨o8, o9, acc, OO, rfl, fi, ti, hso, hPO, hO, hlen⟩
      walk_at "k"
      refine ⟨a, c, n + 2 + 2 * i, (m : Int), rfl, by omega, by omega, fi.st, by omega, fun H20 d x20 s20 d0 dm => ?_⟩
      have f20 := fi.nx x20 s20
      have t20 := tabs_exB ti x20 fi.st.ls
      have hso20 := exB_at x20 hso wso.2.1 wso.2.2
      have hP20 := prd_mono (fun _ _ z => LiN.ex z (ex_dd (p := so) (gh_mono x20))) hPO
      walk_at "k"
      obtain ⟨dn, rfl⟩ : ∃ dn : Nat, d = (dn : Int) := ⟨d.toNat, by omega⟩
      have hdn : dn < ac.length := by omega
      obtain ⟨os, hos, p, ys, hp0, hp, hys⟩ := prd_get hP1 (List.getElem?_eq_getElem hdn)
      obtain ⟨hk, hkl⟩ := hK dn os hos
      refine g_ixL (ex_l f20.ex (sq_of hLG)) (atI_nat (List.getElem?_eq_getElem hdn)) ?_
      rw [hp0]
      walk_at "k"
      refine ⟨ty_L hso20, ?_⟩
      walk_at "k"
      refine g_new (sz (of_decide_eq_true rfl)) fun en H21 nen e21 hen b21 => ?_
      have f21 := f20.exq e21
      have hso21 := e21 _ _ hso20
      have hP21 := prd_mono (fun _ _ z => LiN.ex z (ex_dd (p := so) (gh_mono (a := a) (c := c) (exB_of e21)))) hP20
      have t21 := t20.ext e21
      have hpe : ys.length = os.length := prd_len hys
      refine g_neNil (c := !decide (os = [])) (.lst (ex_l f21.ex hp) (dp_lins (prd_mono (fun _ _ z => z.ex f21.ex) hys))) (ods_shaped os) (sq_of hen) (by cases os <;> simp) ?_
      walk_at "k"
      by_cases he : os = []
      · rw [decide_eq_true he]
        walk_at "k"
        refine g_new (sz (of_decide_eq_true rfl)) fun mt H22 nmt e22 hmt b22 => ?_
        walk_at "k"
        refine g_ext (e22 _ _ hso21) hmt (by simp only [List.length_nil]; omega) fun H23 b23 h23 => ?_
        have f22 := f21.exq e22
        have x23 : ExB [so] H22 H23 := fun b o hb z => by rw [b23 b (fun w => hb (by rw [w]; simp))]; exact z
        have hls : LsS [so] H22 := fun b hb => by rw [List.mem_singleton.mp hb]; exact ⟨_, e22 _ _ hso21⟩
        walk_at "k"
        rw [List.append_nil] at h23
        have f23 := f22.spoil x23 fun b hb => by rw [List.mem_singleton.mp hb]; exact (show G1 so = none ∧ so ≠ a ∧ so ≠ c from wso)
        exact ⟨_, _, acc, OO, rfl, ⟨f23.ex, f23.ga, f23.gc, f23.st.mono (by omega)⟩, tabs_exB (t21.ext e22) x23 hls, h23, prd_mono (fun _ _ z => (LiN.ex z (ex_dd (p := so) (gh_mono (a := a) (c := c) (exB_of e22)))).ex (gh_del b23)) hP21, hO, by omega⟩
      · rw [decide_eq_false he]
        walk_at "k"
        have hos0 : 0 < os.length := List.length_pos_iff.mpr he
        refine ⟨G1, a, c, p, n + 2 + 2 * i + 1, ys, rfl, f21, by omega, hp, by omega, by omega, fun H22 x x22 s22 hx => ?_⟩
        have f22 := f21.nx x22 s22
        have t22 := tabs_exB t21 x22 f21.st.ls
        have hso22 := exB_at x22 hso21 wso.2.1 wso.2.2
        obtain ⟨o, ho, hxo⟩ := prd_mem hys hx
        walk_at "k"
        refine g_new (sz (of_decide_eq_true rfl)) fun mt H23 nmt e23 hmt b23 => ?_
        walk_at "k"
        refine g_ext (e23 _ _ hso22) hmt (by simp only [List.length_cons, List.length_nil]; omega) fun H24 b24 h24 => ?_
        have f23 := f22.exq e23
        have x24 : ExB [so] H23 H24 := fun b o hb z => by rw [b24 b (fun w => hb (by rw [w]; simp))]; exact z
        have hls : LsS [so] H23 := fun b hb => by rw [List.mem_singleton.mp hb]; exact ⟨_, e23 _ _ hso22⟩
        walk_at "k"
        have f24 := f23.spoil x24 fun b hb => by rw [List.mem_singleton.mp hb]; exact (show G1 so = none ∧ so ≠ a ∧ so ≠ c from wso)
        refine ⟨_, _, acc ++ [x], OO ++ [o], rfl, ⟨f24.ex, f24.ga, f24.gc, f24.st.mono (by omega)⟩, tabs_exB (t22.ext e23) x24 hls, h24, prd_app (prd_mono (fun _ _ z => ((LiN.ex z (ex_dd (p := so) (gh_mono x22))).ex (ex_dd (p := so) (gh_mono (a := a) (c := c) (exB_of e23)))).ex (gh_del b24)) hP21) (.cons (LiN.ex (LiN.ex hxo (ex_del (f23.gh nt1) wso.1)) (gh_del b24)) .nil), fun o' ho' => ?_, by rw [List.length_append]; simp only [List.length_cons, List.length_nil]; omega⟩
        rcases List.mem_append.mp ho' with h | h
        · exact hO o' h
        · rw [List.mem_singleton.mp h]
          exact opts_ord hk (by omega) ho
    rintro σ H ⟨o8, o9, acc, OO, rfl, fi, ti, hso, hPO, hO, hlen⟩
    walk_at "k"
    refine g_forI ?_
    walk_at "k"
    obtain ⟨G2, hG2⟩ : ∃ G2, G2 = gh a c H := ⟨_, rfl⟩
    have g12 : Ex G1 G2 := by
      rw [hG2]
      exact fi.gh nt1
    have nt2 : NoTb G2 := by
      rw [hG2]
      exact gh_no _ _ _
    have fr : Fr G2 H a c (n + 2 + 2 * 4) := by
      rw [hG2]
      exact fr_gh fi.st
    have hsoG : G2 so = some (.lst acc) := by
      rw [hG2]
      exact gh_of hso (fun ps z => by cases z) wso.2.1 wso.2.2
    have hPG : Paired (LiN K G2) acc OO := by
      rw [hG2]
      exact prd_mono (fun _ _ z => LiN.ex z del_ex) hPO
    have hlen10 : acc.length ≤ 10 := hlen
    refine over_for (G := G2) (xs := acc) (.inl (sq_of hsoG)) fr.ex (fun i σ H => ∃ (o6 o7 o8 o9 o10 o11 o12 o13 o14 : Option V), σ = [some (.ref a), some (.ref l), some b, some (.int m), some (.ref L), some (.ref so), o6, o7, o8, o9, o10, o11, o12, o13, o14] ∧ Fr G2 H a c (n + 10 + 12 * i) ∧ LamX.Tabs (TLs K) H) ?_ ?_ ?_ ?_
    · exact ⟨_, _, _, _, _, _, _, _, _, rfl, fr, ti⟩
    · rintro i σ H ⟨_, _, _, _, _, _, _, _, _, _, z, _⟩
      exact z.ex
    · rintro i x σ H hx ⟨o6, o7, o8, o9, o10, o11, o12, o13, o14, rfl, fi, ti⟩
      have hi : i < 10 := by
        have := (List.getElem?_eq_some_iff.mp hx).1
        omega
      obtain ⟨o, ho, p, rfl, hp⟩ := prd_get hPG hx
      have hord := hO o (List.mem_of_getElem? ho)
      walk_at "k"
      refine ⟨G2, a, c, n + 10 + 12 * i, .ref p, some o, rfl, fi, nt2, by omega, ⟨p, rfl, hp, hord.1⟩, fun H20 v' x20 s20 hv => ?_⟩
      obtain ⟨G3, hG3⟩ : ∃ G3, G3 = gh a c H20 := ⟨_, rfl⟩
      rw [← hG3] at hv
      have g23 : Ex G2 G3 := by
        rw [hG3]
        exact (fi.nx x20 s20).gh nt2
      have f20 : Fr G3 H20 a c (n + 10 + 12 * i + 11) := by
        rw [hG3]
        exact fr_gh s20
      have t20 := tabs_exB ti x20 fi.st.ls
      walk_at "k"
      have e120 := (g12.trans g23).trans f20.ex
      refine g_lcE (a := L) (xs := ac) (G := G1) (fun RR hRR => ?_) (.inl (sq_of hLG)) e120 fun L3 hL3 => ⟨fun i bc H => Ex H20 H ∧ bc = (((upTo m).take i).filter (legB R o)).map V.int, fun H2 b2 e2 _ => ⟨e2, by rw [List.take_zero]; rfl⟩, fun _ _ _ z => e120.trans z.1, ?_, ?_⟩
      · walk_at "k"
        exact hRR
      · rintro i bc x H2 Tp H3 hx hal2 hLi ⟨e2, rfl⟩ nT e3 hT b3
        have hi : i < m := by
          have := (List.getElem?_eq_some_iff.mp hx).1
          omega
        obtain ⟨os, hos, r, ys, rfl, hr2, hys⟩ := prd_get hP1 hx
        obtain ⟨hk, hlen⟩ := hK i os hos
        have ex13 := e120.trans (e2.trans e3)
        have e23 := e2.trans e3
        refine g_lcs ?_
        walk_at "k"
        refine g_gtup (st_of hT) rfl ?_
        walk_at "k"
        refine ⟨rfl, ?_⟩
        walk_at "k"
        have hL4 := e3 _ _ hLi
        have hmem : o ∈ os ↔ legB R o (1 + (i : Int)) = true := (opts_mem hk hord).trans legB_iff.symm
        refine g_inO (o := o) (os := os) (b := decide (o ∈ os)) ⟨p, rfl, ex_l ((g23.trans f20.ex).trans e23) hp⟩ (ex_l ex13 hr2) (prd_mono (fun _ _ z => z.ex ex13) hys) rfl ?_
        walk_at "k"
        by_cases he : o ∈ os
        · rw [decide_eq_true he]
          walk_at "k"
          refine lcT_of hal2 (by omega) hL4 fun H5 b5 h5 => ⟨ex_but e23 hL3 b5, ?_⟩
          rw [up_take_snoc hi, if_pos (hmem.mp he), List.map_append, Int.add_comm]
          rfl
        · rw [decide_eq_false he]
          walk_at "k"
          refine ⟨_, by omega, hL4, e23, ?_⟩
          rw [up_take_snoc hi, if_neg (fun z => he (hmem.mpr z)), List.append_nil]
      rintro bc H21 hbl hL21 ⟨e21, rfl⟩
      rw [hac, List.take_of_length_le (by rw [up_len]; exact Nat.le_refl _)] at hL21
      change H21 L3 = some (.lst ((heapsOf R o m).map V.int)) at hL21
      have f21 := f20.exq e21
      have t21 := t20.ext e21
      have nL3 := f20.fresh hL3
      have hgl : (heapsOf R o m).length ≤ 1000 := Nat.le_trans upf_len (by omega)
      have hb2 := ((hbk.ex gG1).ex g12).ex g23
      obtain ⟨_, _, hopt⟩ := hv
      have hnw : ¬ Wild o := ord_wild hord
      have hopt21 : OptAt K H21 v' o := OptAt.ex hopt f21.ex
      walk_at "k"
      refine ⟨b, v', .int m, rfl, .inr ⟨R, hb2.ex f21.ex, g, .inr ⟨o, hopt21, fun z => absurd z hnw, fun _ => .inr ⟨m, rfl, by omega, fun H22 q1 e22 nq1 hq1 => ?_⟩⟩⟩⟩
      have f22 := f21.exq e22
      walk_at "k"
      refine g_back ?_
      walk_at "k"
      refine ⟨rfl, b, v', .int m, rfl, .inr ⟨R, hb2.ex f22.ex, g, .inr ⟨o, hopt21.ex e22, fun z => absurd z hnw, fun _ => .inr ⟨m, rfl, by omega, fun H23 q2 e23 nq2 hq2 => ?_⟩⟩⟩⟩
      have f23 := f22.exq e23
      walk_at "k"
      refine g_new (sz (of_decide_eq_true rfl)) fun fo H24 nfo e24 hfo b24 => ?_
      have f24 := f23.exq e24
      walk_at "k"
      with_reducible refine g_ifS ?_
      walk_at "k"
      refine g_new (sz (of_decide_eq_true rfl)) fun du H25 ndu e25 hdu b25 => ?_
      have k23 : Ex H23 H25 := e24.trans e25
      have k22 := e23.trans k23
      have k21 := e22.trans k22
      walk_at "k"
      refine ⟨.ref fo, .ref du, rfl, sm_lst (d := 3) (e25 _ _ hfo) hdu (of_decide_eq_true rfl) (.cons (sm_ints (sq_of (k22 _ _ hq1)) (sq_of (k21 _ _ hL21)) hgl) (.cons (sm_ints (sq_of (k23 _ _ hq2)) (sq_of (k21 _ _ hL21)) hgl) .nil)), fun H26 e26 => ?_⟩
      have f26 := (f24.exq e25).exq e26
      have t26 := (t21.ext k21).ext e26
      have n12 : q1 ≠ q2 := ne_nil hq1 nq2
      have nf1 : fo ≠ q1 := (ne_nil (e23 _ _ hq1) nfo).symm
      have nf2 : fo ≠ q2 := (ne_nil hq2 nfo).symm
      have l31 : L3 ≠ q1 := ne_nil hL21 nq1
      have l32 : L3 ≠ q2 := ne_nil (e22 _ _ hL21) nq2
      have l3f : L3 ≠ fo := ne_nil (e23 _ _ (e22 _ _ hL21)) nfo
      have hfo26 := e26 _ _ (e25 _ _ hfo)
      have hq126 := e26 _ _ (k22 _ _ hq1)
      have hq226 := e26 _ _ (k23 _ _ hq2)
      have hL26 := e26 _ _ (k21 _ _ hL21)
      have w1 := f21.fresh nq1
      have w2 := f22.fresh nq2
      have w4 := f23.fresh nfo
      have ls26 : LsS [fo, q1, q2] H26 := fun z hz => by
        simp only [List.mem_cons, List.not_mem_nil, or_false] at hz
        rcases hz with rfl | rfl | rfl
        · exact ⟨_, hfo26⟩
        · exact ⟨_, hq126⟩
        · exact ⟨_, hq226⟩
      walk_at "k"
      refine ⟨.ref fo, rfl, .inr (.inr ⟨0, fo, [q1, q2], rfl, rfl, hfo26, of_decide_eq_true rfl, ?_, fun z hz => ?_, fun H27 x27 => ?_⟩)⟩
      · simp [n12, nf1, nf2]
      · simp only [List.mem_cons, List.not_mem_nil, or_false] at hz
        rcases hz with rfl | rfl
        · exact ⟨_, hq126, by rw [List.length_map]; exact hgl, fz_ints⟩
        · exact ⟨_, hq226, by rw [List.length_map]; exact hgl, fz_ints⟩
      have f27 : Fr G3 H27 a c (n + 10 + 12 * i + 11) := f26.spoil x27 fun z hz => by
        simp only [List.mem_cons, List.not_mem_nil, or_false] at hz
        rcases hz with rfl | rfl | rfl
        · exact w4
        · exact w1
        · exact w2
      have t27 := tabs_exB t26 x27 ls26
      have hL27 : H27 L3 = some (.lst ((heapsOf R o m).map V.int)) := x27 _ _ (by simp [l31, l32, l3f]) hL26
      walk_at "k"
      refine ⟨a, c, n + 10 + 12 * i + 11, (m : Int) + 1, rfl, by omega, by omega, f27.st, by omega, fun H28 d x28 s28 d0 dm => ?_⟩
      have f28 := f27.nx x28 s28
      have t28 := tabs_exB t27 x28 f27.st.ls
      have hL28 := exB_at x28 hL27 nL3.2.1 nL3.2.2
      obtain ⟨few, rfl⟩ : ∃ few : Nat, d = (few : Int) := ⟨d.toNat, by omega⟩
      walk_at "k"
      with_reducible refine g_ifS ?_
      walk_at "k"
      refine ⟨b, v', .int few, rfl, .inr ⟨R, hb2.ex f28.ex, g, .inr ⟨o, OptAt.ex hopt f28.ex, fun z => absurd z hnw, fun _ => .inr ⟨few, rfl, by omega, fun H29 q3 e29 nq3 hq3 => ?_⟩⟩⟩⟩
      have f29 := f28.exq e29
      have hL29 := e29 _ _ hL28
      walk_at "k"
      refine g_lcQ (a := L3) (xs := (heapsOf R o m).map V.int) (G := H29) (fun RR hRR => ?_) (.inl (sq_of hL29)) (fun _ _ z => z) fun L4 hL4 => ⟨fun j bc H => Ex H29 H ∧ bc = (((heapsOf R o m).take j).filter (fun x => decide (x ≤ (few : Int)))).map V.int, fun H30 b30 e30 _ => ⟨e30, by rw [List.take_zero]; rfl⟩, fun _ _ _ z => z.1, ?_, ?_⟩
      · walk_at "k"
        exact hRR
      · rintro j bc y H30 hy hal3 hL30 ⟨e30, rfl⟩
        rw [List.getElem?_map] at hy
        cases hz : (heapsOf R o m)[j]? with
        | none =>
          rw [hz] at hy
          cases hy
        | some z =>
          rw [hz] at hy
          cases hy
          have hj : j < 1000 := by
            have := (List.getElem?_eq_some_iff.mp hz).1
            omega
          refine g_lcs ?_
          walk_at "k"
          refine ⟨rfl, ?_⟩
          walk_at "k"
          by_cases hc : z ≤ (few : Int)
          · rw [decide_eq_true hc]
            walk_at "k"
            refine lcT_of hal3 (by omega) hL30 fun H31 b31 h31 => ⟨ex_but e30 hL4 b31, ?_⟩
            rw [take_snoc hz, List.filter_append, List.filter_cons_of_pos (by exact decide_eq_true hc), List.filter_nil, List.map_append]
            rfl
          · rw [decide_eq_false hc]
            walk_at "k"
            refine ⟨_, by omega, hL30, e30, ?_⟩
            rw [take_snoc hz, List.filter_append, List.filter_cons_of_neg (by rw [decide_eq_true_eq]; exact hc), List.filter_nil, List.append_nil]
      rintro bc H30 hbl3 hL30 ⟨e30, rfl⟩
      rw [List.length_map, List.take_length, heaps_few (by omega)] at hL30
      walk_at "k"
      have hfl : (heapsOf R o few).length ≤ 1000 := Nat.le_trans upf_len (by omega)
      refine ⟨.ref q3, .ref L4, rfl, sm_ints (d := 3) (sq_of (e30 _ _ hq3)) (sq_of hL30) hfl, fun H31 e31 => ?_⟩
      have f31 := (f29.exq e30).exq e31
      walk_at "k"
      exact ⟨_, _, _, _, _, _, _, _, _, rfl, ⟨g23.trans f31.ex, fi.ga, fi.gc, f31.st.mono (by omega)⟩, ((t28.ext e29).ext e30).ext e31⟩
    · rintro σ H ⟨o6, o7, o8, o9, o10, o11, o12, o13, o14, rfl, fi, ti⟩
      walk_at "k"
      exact q H ⟨(gG1.trans g12).trans fi.ex, f.ga, f.gc, fi.st.mono (by omega)⟩ ti
end
end Tk
namespace Tk
open PySem PySem.Spec PyProof.Rows L2
open Evl (Ex ex_l ex_t ex_rd sq_of st_of fresh_back)
local macro_rules | `(tactic| walk_at "g") => `(tactic| (repeat (first
  | (with_reducible refine g_seq ?_) | (with_reducible refine g_asg ?_) | (with_reducible refine g_name ?_) | (with_reducible refine g_sub ?_)
  | ((with_reducible refine' g_var ?e ?_); (case e => exact rfl)) | (with_reducible refine g_c ?_) | (with_reducible refine g_op ?_) | (with_reducible refine g_un ?_) | (with_reducible refine g_U ?_)
  | (with_reducible refine g_I0 ?_) | (with_reducible refine g_eqI ?_) | (with_reducible refine g_neI ?_) | (with_reducible refine g_eqS ?_) | (with_reducible refine g_neS ?_) | (with_reducible refine g_eqB ?_) | (with_reducible refine g_neB ?_)
  | (with_reducible refine g_test ?_) | (with_reducible refine g_tB ?_) | (with_reducible refine g_bl ?_) | (with_reducible refine g_and ?_) | (with_reducible refine g_or ?_) | (with_reducible refine g_not ?_)
  | (with_reducible refine g_andV ?_) | (with_reducible refine g_orV ?_) | (with_reducible refine g_notV ?_) | (with_reducible refine g_ifE ?_) | (with_reducible refine g_ifS ?_)
  | (with_reducible refine g_next ?_) | (with_reducible refine g_ret ?_) | (with_reducible refine g_drop ?_) | (with_reducible refine g_nil ?_) | (with_reducible refine g_cons ?_) | (with_reducible refine g_call ?_)
  | (with_reducible refine g_cb ?_) | (with_reducible refine g_bm ?_) | (with_reducible refine g_lst ?_) | (with_reducible refine g_tup ?_) | (with_reducible refine iteT ?_) | (with_reducible refine iteF ?_) | (with_reducible refine g_nt ?_) | (with_reducible refine g_nf ?_)
  | (with_reducible refine g_par ?_) | (with_reducible refine g_par3 ?_) | (with_reducible refine g_two ?_) | (with_reducible refine g_three ?_) | (with_reducible refine g_ckw ?_) | (with_reducible refine g_yes ?_) | (with_reducible refine g_chain ?_) | (with_reducible refine g_gnil ?_) | (with_reducible refine g_gcons ?_) | (with_reducible refine g_fld ?_) | (with_reducible refine g_sfld ?_) | (with_reducible refine g_isN ?_) | (with_reducible refine g_nint ?_) | (with_reducible refine g_nintB ?_) | (with_reducible refine g_max ?_) | (with_reducible refine g_min ?_))))
local macro_rules | `(tactic| walk_at "k") => `(tactic| (repeat (first
  | (with_reducible refine g_seq ?_) | (with_reducible refine g_asg ?_) | (with_reducible refine g_name ?_) | (with_reducible refine g_sub ?_)
  | ((with_reducible refine' g_var ?e ?_); (case e => exact rfl)) | (with_reducible refine g_c ?_) | (with_reducible refine g_op ?_) | (with_reducible refine g_un ?_) | (with_reducible refine g_U ?_)
  | (with_reducible refine g_I0 ?_) | (with_reducible refine g_eqI ?_) | (with_reducible refine g_neI ?_) | (with_reducible refine g_eqS ?_) | (with_reducible refine g_neS ?_) | (with_reducible refine g_eqB ?_) | (with_reducible refine g_neB ?_)
  | (with_reducible refine g_test ?_) | (with_reducible refine g_tB ?_) | (with_reducible refine g_bl ?_) | (with_reducible refine g_and ?_) | (with_reducible refine g_or ?_) | (with_reducible refine g_not ?_)
  | (with_reducible refine g_andV ?_) | (with_reducible refine g_orV ?_) | (with_reducible refine g_notV ?_) | (with_reducible refine g_ifE ?_)
  | (with_reducible refine g_next ?_) | (with_reducible refine g_ret ?_) | (with_reducible refine g_drop ?_) | (with_reducible refine g_nil ?_) | (with_reducible refine g_cons ?_) | (with_reducible refine g_call ?_)
  | (with_reducible refine g_cb ?_) | (with_reducible refine g_bm ?_) | (with_reducible refine g_lst ?_) | (with_reducible refine g_tup ?_) | (with_reducible refine iteT ?_) | (with_reducible refine iteF ?_) | (with_reducible refine g_nt ?_) | (with_reducible refine g_nf ?_)
  | (with_reducible refine g_par ?_) | (with_reducible refine g_par3 ?_) | (with_reducible refine g_two ?_) | (with_reducible refine g_three ?_) | (with_reducible refine g_ckw ?_) | (with_reducible refine g_yes ?_) | (with_reducible refine g_chain ?_) | (with_reducible refine g_gnil ?_) | (with_reducible refine g_gcons ?_) | (with_reducible refine g_fld ?_) | (with_reducible refine g_sfld ?_) | (with_reducible refine g_isN ?_) | (with_reducible refine g_nint ?_) | (with_reducible refine g_nintB ?_) | (with_reducible refine g_max ?_) | (with_reducible refine g_min ?_))))
theorem g_rep {l : Addr} {k : Int} {xs : List V} {H : Hp} {Q : VK} (hl : H l = some (.lst xs)) (h1 : 0 ≤ k) (h2 : k ≤ 3) (h3 : xs.length ≤ 10) (h : ∀ p H', H p = none → Ex H H' → H' p = some (.lst (List.replicate k.toNat xs).flatten) → Q (.ref p) H') : rRep (.ref l) (.int k) H Q :=
  ⟨l, k, xs, rfl, rfl, hl, by omega, by omega, sz (by
    have : k.toNat ≤ 3 := by omega
    exact Nat.le_trans (Nat.mul_le_mul h3 this) (by decide)), fun p np => h p _ np (Evl.Ex.new np) upd_same⟩
theorem from_odd {K : PySem.W.Frag} {H : Hp} {x : V} {E : XK} {ok : List Int → Prop} (h : NoOpt K H x ∨ ∃ o, OptAt K H x o ∧ Wild o) (e : ErrE K "BadOption" x H E) : (NoOpt K H x ∧ ErrE K "BadOption" x H E) ∨ ∃ o, OptAt K H x o ∧ (Wild o → ErrE K "BadOption" x H E) ∧ (¬ Wild o → ok o) := by
  rcases h with h | ⟨o, h1, h2⟩
  · exact .inl ⟨h, e⟩
  · exact .inr ⟨o, h1, fun _ => e, fun z => absurd h2 z⟩
theorem odd_ex {K : PySem.W.Frag} {H H' : Hp} {x : V} (h : NoOpt K H x ∨ ∃ o, OptAt K H x o ∧ Wild o) (e : Ex H H') : NoOpt K H' x ∨ ∃ o, OptAt K H' x o ∧ Wild o := by
  rcases h with h | ⟨o, h1, h2⟩
  · exact .inl (h.ex e)
  · exact .inr ⟨o, h1.ex e, h2⟩
/-- what is odd, and the same as itself -/
def spRefused (K : PySem.W.Frag) : Sp := fun vs H Q _ => ∃ (G : Hp) (b : V) (R : List Rl), vs = [b] ∧ Ex G H ∧ NoTb G ∧ LamX.Tabs (TLs K) H ∧ BookAt K G b R ∧ Goods R ∧ ∀ H', Q (.bl true) H'
section
variable {P : Program} {w : World} {K : PySem.W.Frag} {mg : Str → Option Value} {base : Heap}
theorem sc_w_refused_right : FnScope ["_law_made", "_law_found", "_law_odd"] ["_law_made"] (defScope st_w_refused_right) := ⟨rfl, rfl, rfl, by decide +kernel, rfl, by decide +kernel, by decide +kernel⟩
theorem ok_w_refused_right (T : Txt K mg) (TB : LamX.TabB base mg (He.cT K ("_law_refused_right", none)).1 (He.cT K ("_law_refused_right", none)).2) : Kept P w K mg base CX0 9 "_law_refused_right" ["_law_made"] (spRefused K) := by
  have G_ways_to := ok_ways_to (P := P) (w := w) (base := base) T
  have G_heaps_from := ok_heaps_from (P := P) (w := w) (base := base) T
  have G_ends := ok_ends (P := P) (w := w) (base := base) T
  have G_w_same := ok_w_same (P := P) (w := w) (base := base) T 4
  have m1 : ((He.cT K ("_law_refused_right", none)).2, ("_law_refused_right.<locals>.<lambda>" : Str)) ∈ TLs K := List.mem_cons_of_mem _ List.mem_cons_self
  have u1 : ∀ z ∈ TLs K, z.1 = (He.cT K ("_law_refused_right", none)).2 → z.2 = ("_law_refused_right.<locals>.<lambda>" : Str) := fun z hz e => by
    rcases List.mem_cons.mp hz with rfl | hz
    · exact absurd e T.tab2
    · rw [List.mem_singleton.mp hz]
  refine keptC T.d_w_refused_right sc_w_refused_right (fun vs H Q E h => ?_) (fun A outer s H0 vs Q E hr h => ?_)
  · obtain ⟨G, b, R, rfl, _⟩ := h
    rfl
  · obtain ⟨G, b, R, rfl, e0, nt, tb, hbk, g, q⟩ := h
    refine ⟨_, (pss_cons (ps_for PassesOwn.never rfl (pi_q (pe_tup (pa_cons pe_non (pa_cons pe_int (pa_cons pe_str (pa_cons (pe_lst pa_nil) (pa_cons pe_dnewK pa_nil))))))) (pg_name (i := 2) sc_w_refused_right.nd rfl (Or.inr rfl)) (pss_cons (ps_set (i := 1) sc_w_refused_right.nd rfl (Or.inl rfl) (pe_lst (pa_cons (pe_met T (k := 6) (by rfl) TB rfl m1 u1 (hr.mono (by decide)) (LamX.lamS_by (sc := defScope st_w_refused_right) (by decide +kernel)) rfl (fun _ _ _ _ _ => rfl) (fun A outer s H E f c hr => (pe_c G_ways_to (hr.mono (by decide)) (passes_call (takes_of rfl rfl rfl rfl) (fun _ _ _ _ h => h)) (pa_cons (pe_var (i := 2) rfl (.inr (.inr rfl))) (pa_cons pe_non (pa_cons pe_non pa_nil)))))) pa_nil)))
      (pss_cons (ps_expr (pe_bmK K PySem.F.plainAttrs_list PySem.F.slot_list_append PySem.F.type_list_append mt_append (pv 1) (pa_cons (pe_met T (k := 6) (by rfl) TB rfl m1 u1 (hr.mono (by decide)) (LamX.lamS_by (sc := defScope st_w_refused_right) (by decide +kernel)) rfl (fun _ _ _ _ _ => rfl) (fun A outer s H E f c hr => (pe_c G_heaps_from (hr.mono (by decide)) (passes_call (takes_of rfl rfl rfl rfl) (fun _ _ _ _ h => h)) (pa_cons (pe_var (i := 2) rfl (.inr (.inr rfl))) (pa_cons pe_non (pa_cons pe_non pa_nil)))))) pa_nil)))
      (pss_cons (ps_expr (pe_bmK K PySem.F.plainAttrs_list PySem.F.slot_list_append PySem.F.type_list_append mt_append (pv 1) (pa_cons (pe_met T (k := 6) (by rfl) TB rfl m1 u1 (hr.mono (by decide)) (LamX.lamS_by (sc := defScope st_w_refused_right) (by decide +kernel)) rfl (fun _ _ _ _ _ => rfl) (fun A outer s H E f c hr => (pe_c G_ends (hr.mono (by decide)) (passes_call (takes_of rfl rfl rfl rfl) (fun _ _ _ _ h => h)) (pa_cons (pe_var (i := 2) rfl (.inr (.inr rfl))) (pa_cons pe_non pa_nil))))) pa_nil)))
      (pss_one (ps_if (pt_not (pt_val (pe_c G_w_same (hr.mono (by decide)) pass0 (pa_cons (pv 1) (pa_cons (pe_op op_rep (pe_lst (pa_cons (pe_tup (pa_cons pe_str (pa_cons (pv 2) pa_nil))) pa_nil)) pe_int) pa_nil))))) (pss_one (ps_ret pe_bl)) pss_nil))))))
      (pss_cons (ps_for PassesOwn.never rfl (pi_q (pe_tup (pa_cons pe_non (pa_cons pe_int (pa_cons (pe_un un_neg pe_int) (pa_cons pe_bl (pa_cons pe_str (pa_cons (pe_lst (pa_cons pe_int pa_nil)) (pa_cons (pe_op op_add (pe_op op_pow pe_int pe_int) pe_int) pa_nil))))))))) (pg_name (i := 2) sc_w_refused_right.nd rfl (Or.inr rfl)) (pss_one (ps_if (pt_not (pt_val (pe_c G_w_same (hr.mono (by decide)) pass0 (pa_cons (pe_met T (k := 6) (by rfl) TB rfl m1 u1 (hr.mono (by decide)) (LamX.lamS_by (sc := defScope st_w_refused_right) (by decide +kernel)) rfl (fun _ _ _ _ _ => rfl) (fun A outer s H E f c hr => (pe_c G_ways_to (hr.mono (by decide)) (passes_call (takes_of rfl rfl rfl rfl) (fun _ _ _ _ h => h)) (pa_cons (pe_var (i := 0) rfl (.inr (.inr rfl))) (pa_cons (pe_var (i := 2) rfl (.inr (.inr rfl))) (pa_cons pe_non pa_nil)))))) (pa_cons (pe_tup (pa_cons pe_str (pa_cons (pv 2) pa_nil))) pa_nil))))) (pss_one (ps_ret pe_bl)) pss_nil)))
      (pss_cons (ps_for PassesOwn.never rfl (pi_q (pe_tup (pa_cons pe_non (pa_cons pe_int (pa_cons pe_str (pa_cons (pe_lst (pa_cons pe_int pa_nil)) (pa_cons (pe_lst (pa_cons pe_int (pa_cons pe_int pa_nil))) (pa_cons (pe_lst (pa_cons pe_int (pa_cons pe_int (pa_cons pe_int pa_nil)))) (pa_cons (pe_lst (pa_cons pe_bl pa_nil)) (pa_cons (pe_lst (pa_cons pe_non pa_nil)) (pa_cons pe_dnewK (pa_cons (pe_lst (pa_cons (pe_lst (pa_cons pe_int pa_nil)) pa_nil)) (pa_cons (pe_lst (pa_cons (pe_un un_neg pe_int) pa_nil)) (pa_cons (pe_lst (pa_cons pe_int (pa_cons pe_str pa_nil))) pa_nil)))))))))))))) (pg_name (i := 2) sc_w_refused_right.nd rfl (Or.inr rfl)) (pss_one (ps_if (pt_not (pt_val (pe_c G_w_same (hr.mono (by decide)) pass0 (pa_cons (pe_met T (k := 6) (by rfl) TB rfl m1 u1 (hr.mono (by decide)) (LamX.lamS_by (sc := defScope st_w_refused_right) (by decide +kernel)) rfl (fun _ _ _ _ _ => rfl) (fun A outer s H E f c hr => (pe_c G_heaps_from (hr.mono (by decide)) (passes_call (takes_of rfl rfl rfl rfl) (fun _ _ _ _ h => h)) (pa_cons (pe_var (i := 0) rfl (.inr (.inr rfl))) (pa_cons (pe_var (i := 2) rfl (.inr (.inr rfl))) (pa_cons pe_non pa_nil)))))) (pa_cons (pe_tup (pa_cons pe_str (pa_cons (pv 2) pa_nil))) pa_nil))))) (pss_one (ps_ret pe_bl)) pss_nil)))
      (pss_cons (ps_for PassesOwn.never rfl (pi_q (pe_tup (pa_cons pe_non (pa_cons (pe_un un_neg pe_int) (pa_cons pe_bl (pa_cons pe_str (pa_cons (pe_lst (pa_cons pe_int pa_nil)) (pa_cons pe_dnewK pa_nil)))))))) (pg_name (i := 2) sc_w_refused_right.nd rfl (Or.inr rfl)) (pss_cons (ps_set (i := 1) sc_w_refused_right.nd rfl (Or.inl rfl) (pe_lst (pa_cons (pe_met T (k := 6) (by rfl) TB rfl m1 u1 (hr.mono (by decide)) (LamX.lamS_by (sc := defScope st_w_refused_right) (by decide +kernel)) rfl (fun _ _ _ _ _ => rfl) (fun A outer s H E f c hr => (pe_c G_heaps_from (hr.mono (by decide)) (passes_call (takes_of rfl rfl rfl rfl) (fun _ _ _ _ h => h)) (pa_cons (pe_var (i := 0) rfl (.inr (.inr rfl))) (pa_cons (pe_lst (pa_cons pe_int pa_nil)) (pa_cons (pe_var (i := 2) rfl (.inr (.inr rfl))) pa_nil)))))) pa_nil)))
      (pss_cons (ps_expr (pe_bmK K PySem.F.plainAttrs_list PySem.F.slot_list_append PySem.F.type_list_append mt_append (pv 1) (pa_cons (pe_met T (k := 6) (by rfl) TB rfl m1 u1 (hr.mono (by decide)) (LamX.lamS_by (sc := defScope st_w_refused_right) (by decide +kernel)) rfl (fun _ _ _ _ _ => rfl) (fun A outer s H E f c hr => (pe_c G_ends (hr.mono (by decide)) (passes_call (takes_of rfl rfl rfl rfl) (fun _ _ _ _ h => h)) (pa_cons (pe_var (i := 0) rfl (.inr (.inr rfl))) (pa_cons (pe_var (i := 2) rfl (.inr (.inr rfl))) pa_nil))))) pa_nil)))
      (pss_one (ps_if (pt_not (pt_val (pe_c G_w_same (hr.mono (by decide)) pass0 (pa_cons (pv 1) (pa_cons (pe_op op_rep (pe_lst (pa_cons (pe_tup (pa_cons pe_str (pa_cons (pv 2) pa_nil))) pa_nil)) pe_int) pa_nil))))) (pss_one (ps_ret pe_bl)) pss_nil)))))
      (pss_one (ps_ret pe_bl)))))), ?_⟩
    walk_at "k"
    refine g_forI ?_
    walk_at "k"
    refine g_new (sz (of_decide_eq_true rfl)) fun p1 H1 n1 e1 h1 b1 => ?_
    walk_at "k"
    refine g_dnew fun p2 H2 n2 e2 h2 b2 => ?_
    walk_at "k"
    refine g_newT (sz (of_decide_eq_true rfl)) fun tp H3 n3 e3 h3 b3 => ?_
    walk_at "k"
    have k3 : Ex H0 H3 := e1.trans (e2.trans e3)
    have of3 : ∀ {b : Addr} {o : HO}, H3 b = some o → (∀ ps, o ≠ .tbl ps) → noTb H3 b = some o := fun h n => noTb_of h n
    have gG3 : Ex G (noTb H3) := fun b o h => of3 (k3 _ _ (e0 _ _ h)) fun ps z => nt b ps (z ▸ h)
    refine over_for (G := noTb H3) (xs := [V.non, V.int 5, V.str "book", V.ref p1, V.ref p2]) (.inr (st_of (of3 h3 fun ps z => by cases z))) noTb_ex (fun i σ H => ∃ o1 o2 : Option V, σ = [some b, o1, o2] ∧ Ex (noTb H3) H ∧ LamX.Tabs (TLs K) H) ?_ ?_ ?_ ?_
    · exact ⟨none, none, rfl, noTb_ex, tb.ext k3⟩
    · rintro i σ H ⟨_, _, _, z, _⟩
      exact z
    · rintro i x σ H hx ⟨o1, o2, rfl, ei, ti⟩
      obtain ⟨hno, hsm⟩ := mem_of_at (o1_all (K := K) (of3 (e3 _ _ (e2 _ _ h1)) fun ps z => by cases z) (of3 (e3 _ _ h2) fun ps z => by cases z)) hx
      walk_at "k"
      refine g_met ti fun H4 x4 t4 => ?_
      have g4 := (noTb_no H3).ex ei x4
      walk_at "k"
      refine ⟨x, .non, .non, rfl, .inl ⟨hno.ex g4, errW_of (.inl ⟨rfl, rfl⟩) fun H5 q1 e5 nq1 hq1 => ?_⟩⟩
      walk_at "k"
      refine g_new (sz (of_decide_eq_true rfl)) fun fo H6 nfo e6 hfo b6 => ?_
      walk_at "k"
      refine ⟨ty_L hfo, ?_⟩
      walk_at "k"
      refine g_met ((t4.ext e5).ext e6) fun H7 x7 t7 => ?_
      have g7 := (noTb_no H3).ex (g4.trans (e5.trans e6)) x7
      walk_at "k"
      refine ⟨x, .non, .non, rfl, .inl ⟨hno.ex g7, errW_of (.inl ⟨rfl, rfl⟩) fun H8 q2 e8 nq2 hq2 => ?_⟩⟩
      have hfo8 := e8 _ _ (x7 _ _ hfo fun ps z => by cases z)
      have hq18 := e8 _ _ (x7 _ _ (e6 _ _ hq1) fun ps z => by cases z)
      walk_at "k"
      refine g_app hfo8 (szl (of_decide_eq_true rfl)) fun H9 b9 h9 => ?_
      have g8 := g7.trans e8
      have nf : noTb H3 fo = none := none_ex (g4.trans e5) nfo
      have g9 := ex_but g8 nf b9
      have t9 : LamX.Tabs (TLs K) H9 := tabs_exB (S := [fo]) (t7.ext e8) (fun b o hb z => by rw [b9 b (fun w => hb (by rw [w]; simp))]; exact z) (fun b hb => by rw [List.mem_singleton.mp hb]; exact ⟨_, hfo8⟩)
      have hq19 : H9 q1 = some (.tup [.str "book", x]) := by
        rw [b9 q1 (fun z => by rw [z, hfo8] at hq18; cases hq18)]
        exact hq18
      have hq29 : H9 q2 = some (.tup [.str "book", x]) := by
        rw [b9 q2 (fun z => by rw [z, hfo8] at hq2; cases hq2)]
        exact hq2
      walk_at "k"
      refine ⟨ty_L h9, ?_⟩
      walk_at "k"
      refine g_met t9 fun H10 x10 t10 => ?_
      have g10 := (noTb_no H3).ex g9 x10
      walk_at "k"
      refine ⟨x, .non, rfl, .inl ⟨hno.ex g10, errW_of (.inl ⟨rfl, rfl⟩) fun H11 q3 e11 nq3 hq3 => ?_⟩⟩
      have hfo11 := e11 _ _ (x10 _ _ h9 fun ps z => by cases z)
      have hq111 := e11 _ _ (x10 _ _ hq19 fun ps z => by cases z)
      have hq211 := e11 _ _ (x10 _ _ hq29 fun ps z => by cases z)
      walk_at "k"
      refine g_app hfo11 (szl (of_decide_eq_true rfl)) fun H12 b12 h12 => ?_
      have g12 := ex_but (g10.trans e11) nf b12
      have t12 : LamX.Tabs (TLs K) H12 := tabs_exB (S := [fo]) (t10.ext e11) (fun b o hb z => by rw [b12 b (fun w => hb (by rw [w]; simp))]; exact z) (fun b hb => by rw [List.mem_singleton.mp hb]; exact ⟨_, hfo11⟩)
      have hq112 : H12 q1 = some (.tup [.str "book", x]) := by
        rw [b12 q1 (fun z => by rw [z, hfo11] at hq111; cases hq111)]
        exact hq111
      have hq212 : H12 q2 = some (.tup [.str "book", x]) := by
        rw [b12 q2 (fun z => by rw [z, hfo11] at hq211; cases hq211)]
        exact hq211
      have hq312 : H12 q3 = some (.tup [.str "book", x]) := by
        rw [b12 q3 (fun z => by rw [z, hfo11] at hq3; cases hq3)]
        exact hq3
      walk_at "k"
      with_reducible refine g_ifS ?_
      walk_at "k"
      refine g_newT (sz (of_decide_eq_true rfl)) fun tq H13 n13 e13 h13 b13 => ?_
      walk_at "k"
      refine g_new (sz (of_decide_eq_true rfl)) fun lq H14 n14 e14 h14 b14 => ?_
      walk_at "k"
      refine g_rep h14 (by decide) (by decide) (of_decide_eq_true rfl) fun lr H15 n15 e15 h15 => ?_
      walk_at "k"
      have r15 := e13.trans (e14.trans e15)
      have g15 := g12.trans r15
      have z15 := e15 _ _ (e14 _ _ h13)
      have hs := hsm.ex g15
      refine ⟨.ref fo, .ref lr, rfl, sm_lst (r15 _ _ h12) h15 (of_decide_eq_true rfl) (.cons (sm_two (st_of (r15 _ _ hq112)) (st_of z15) hs) (.cons (sm_two (st_of (r15 _ _ hq212)) (st_of z15) hs) (.cons (sm_two (st_of (r15 _ _ hq312)) (st_of z15) hs) .nil))), fun H16 e16 => ?_⟩
      walk_at "k"
      exact ⟨_, _, rfl, g15.trans e16, (t12.ext r15).ext e16⟩
    rintro σ H ⟨o1, o2, rfl, ei, ti⟩
    walk_at "k"
    refine g_forI ?_
    walk_at "k"
    have gb3 := hbk.ex gG3
    refine g_new (sz (of_decide_eq_true rfl)) fun p4 H4 n4 e4 h4 b4 => ?_
    walk_at "k"
    refine g_I (by unfold CPow; decide) ?_
    walk_at "k"
    refine g_newT (sz (of_decide_eq_true rfl)) fun tp2 H5 n5 e5 h5 b5 => ?_
    walk_at "k"
    have of5 : ∀ {b : Addr} {o : HO}, H5 b = some o → (∀ ps, o ≠ .tbl ps) → noTb H5 b = some o := fun h n => noTb_of h n
    have g35 : Ex (noTb H3) (noTb H5) := fun b o h => of5 ((ei.trans (e4.trans e5)) _ _ h) fun ps z => noTb_no H3 b ps (z ▸ h)
    have gb5 := gb3.ex g35
    refine over_for (G := noTb H5) (xs := [V.non, V.int 0, V.int (-3), V.bl true, V.str "3", V.ref p4, V.int (10 ^ 18 + 1)]) (.inr (st_of (of5 h5 fun ps z => by cases z))) noTb_ex (fun i σ H => ∃ o1 o2 : Option V, σ = [some b, o1, o2] ∧ Ex (noTb H5) H ∧ LamX.Tabs (TLs K) H) ?_ ?_ ?_ ?_
    · exact ⟨_, _, rfl, noTb_ex, (ti.ext e4).ext e5⟩
    · rintro i σ H ⟨_, _, _, z, _⟩
      exact z
    · rintro i x σ H hx ⟨o1, o2, rfl, ei, ti⟩
      obtain ⟨hpl, hhp, hsm⟩ := mem_of_at (o2_all (K := K) (of5 (e5 _ _ h4) fun ps z => by cases z)) hx
      walk_at "k"
      with_reducible refine g_ifS ?_
      walk_at "k"
      refine g_met ti fun H6 x6 t6 => ?_
      have g6 := (noTb_no H5).ex ei x6
      walk_at "k"
      refine ⟨b, x, .non, rfl, .inr ⟨R, gb5.ex g6, g, .inl ⟨hpl.ex g6, hhp, errW_of (.inr (.inl ⟨rfl, rfl⟩)) fun H7 q1 e7 nq1 hq1 => ?_⟩⟩⟩
      walk_at "k"
      refine g_newT (sz (of_decide_eq_true rfl)) fun tq H8 n8 e8 h8 b8 => ?_
      walk_at "k"
      have g8 := g6.trans (e7.trans e8)
      refine ⟨.ref q1, .ref tq, rfl, (sm_two (st_of (e8 _ _ hq1)) (st_of h8) (hsm.ex g8)).up, fun H9 e9 => ?_⟩
      walk_at "k"
      exact ⟨_, _, rfl, g8.trans e9, ((t6.ext e7).ext e8).ext e9⟩
    rintro σ H ⟨o1, o2, rfl, ei, ti⟩
    walk_at "k"
    refine g_forI ?_
    walk_at "k"
    have gb5' := gb5
    refine g_new (sz (of_decide_eq_true rfl)) fun w1 I1 m1 f1 z1 c1 => ?_
    walk_at "k"
    refine g_new (sz (of_decide_eq_true rfl)) fun w2 I2 m2 f2 z2 c2 => ?_
    walk_at "k"
    refine g_new (sz (of_decide_eq_true rfl)) fun w3 I3 m3 f3 z3 c3 => ?_
    walk_at "k"
    refine g_new (sz (of_decide_eq_true rfl)) fun w4 I4 m4 f4 z4 c4 => ?_
    walk_at "k"
    refine g_new (sz (of_decide_eq_true rfl)) fun w5 I5 m5 f5 z5 c5 => ?_
    walk_at "k"
    refine g_dnew fun w6 I6 m6 f6 z6 c6 => ?_
    walk_at "k"
    refine g_new (sz (of_decide_eq_true rfl)) fun w7 I7 m7 f7 z7 c7 => ?_
    walk_at "k"
    refine g_new (sz (of_decide_eq_true rfl)) fun w8 I8 m8 f8 z8 c8 => ?_
    walk_at "k"
    refine g_new (sz (of_decide_eq_true rfl)) fun w9 I9 m9 f9 z9 c9 => ?_
    walk_at "k"
    refine g_new (sz (of_decide_eq_true rfl)) fun w10 I10 m10 f10 z10 c10 => ?_
    walk_at "k"
    refine g_newT (sz (of_decide_eq_true rfl)) fun tp3 I11 m11 f11 z11 c11 => ?_
    walk_at "k"
    have of6 : ∀ {b : Addr} {o : HO}, I11 b = some o → (∀ ps, o ≠ .tbl ps) → noTb I11 b = some o := fun h n => noTb_of h n
    have r10 : Ex I10 I11 := f11
    have r9 := f10.trans r10
    have r8 := f9.trans r9
    have r7 := f8.trans r8
    have r6 := f7.trans r7
    have r5 := f6.trans r6
    have r4 := f5.trans r5
    have r3 := f4.trans r4
    have r2 := f3.trans r3
    have r1 := f2.trans r2
    have r0 := f1.trans r1
    have g56 : Ex (noTb H5) (noTb I11) := fun b o h => of6 ((ei.trans r0) _ _ h) fun ps z => noTb_no H5 b ps (z ▸ h)
    have gb6 := gb5.ex g56
    have all3 := o3_all (K := K) (of6 (r1 _ _ z1) fun ps z => by cases z) (of6 (r2 _ _ z2) fun ps z => by cases z) (of6 (r3 _ _ z3) fun ps z => by cases z) (of6 (r4 _ _ z4) fun ps z => by cases z) (of6 (r5 _ _ z5) fun ps z => by cases z) (of6 (r6 _ _ z6) fun ps z => by cases z) (of6 (r7 _ _ z7) fun ps z => by cases z) (of6 (r8 _ _ z8) fun ps z => by cases z) (of6 (r9 _ _ z9) fun ps z => by cases z) (of6 (r10 _ _ z10) fun ps z => by cases z)
    refine over_for (G := noTb I11) (xs := [V.non, V.int 5, V.str "1", V.ref w1, V.ref w2, V.ref w3, V.ref w4, V.ref w5, V.ref w6, V.ref w8, V.ref w9, V.ref w10]) (.inr (st_of (of6 z11 fun ps z => by cases z))) noTb_ex (fun i σ H => ∃ o1 o2 : Option V, σ = [some b, o1, o2] ∧ Ex (noTb I11) H ∧ LamX.Tabs (TLs K) H) ?_ ?_ ?_ ?_
    · exact ⟨_, _, rfl, noTb_ex, ti.ext r0⟩
    · rintro i σ H ⟨_, _, _, z, _⟩
      exact z
    · rintro i x σ H hx ⟨o1, o2, rfl, ei, ti⟩
      obtain ⟨hno, hsm⟩ := mem_of_at all3 hx
      walk_at "k"
      with_reducible refine g_ifS ?_
      walk_at "k"
      refine g_met ti fun H6 x6 t6 => ?_
      have g6 := (noTb_no I11).ex ei x6
      walk_at "k"
      refine ⟨b, x, .non, rfl, .inr ⟨R, gb6.ex g6, g, from_odd (odd_ex hno g6) (errW_of (.inr (.inr (.inl ⟨rfl, rfl⟩))) fun H7 q1 e7 nq1 hq1 => ?_)⟩⟩
      walk_at "k"
      refine g_newT (sz (of_decide_eq_true rfl)) fun tq H8 n8 e8 h8 b8 => ?_
      walk_at "k"
      have g8 := g6.trans (e7.trans e8)
      refine ⟨.ref q1, .ref tq, rfl, (sm_two (st_of (e8 _ _ hq1)) (st_of h8) (hsm.ex g8)).up, fun H9 e9 => ?_⟩
      walk_at "k"
      exact ⟨_, _, rfl, g8.trans e9, ((t6.ext e7).ext e8).ext e9⟩
    rintro σ H ⟨o1, o2, rfl, ei, ti⟩
    walk_at "k"
    refine g_forI ?_
    walk_at "k"
    refine g_new (sz (of_decide_eq_true rfl)) fun y1 J1 l1 j1 u1' v1 => ?_
    walk_at "k"
    refine g_dnew fun y2 J2 l2 j2 u2' v2 => ?_
    walk_at "k"
    refine g_newT (sz (of_decide_eq_true rfl)) fun tp4 J3 l3 j3 u3' v3 => ?_
    walk_at "k"
    have of7 : ∀ {b : Addr} {o : HO}, J3 b = some o → (∀ ps, o ≠ .tbl ps) → noTb J3 b = some o := fun h n => noTb_of h n
    have g67 : Ex (noTb I11) (noTb J3) := fun b o h => of7 ((ei.trans (j1.trans (j2.trans j3))) _ _ h) fun ps z => noTb_no I11 b ps (z ▸ h)
    have gb7 := gb6.ex g67
    have all4 := o4_all (K := K) (of7 (j3 _ _ (j2 _ _ u1')) fun ps z => by cases z) (of7 (j3 _ _ u2') fun ps z => by cases z)
    refine over_for (G := noTb J3) (xs := [V.non, V.int (-1), V.bl true, V.str "3", V.ref y1, V.ref y2]) (.inr (st_of (of7 u3' fun ps z => by cases z))) noTb_ex (fun i σ H => ∃ o1 o2 : Option V, σ = [some b, o1, o2] ∧ Ex (noTb J3) H ∧ LamX.Tabs (TLs K) H) ?_ ?_ ?_ ?_
    · exact ⟨_, _, rfl, noTb_ex, ti.ext (j1.trans (j2.trans j3))⟩
    · rintro i σ H ⟨_, _, _, z, _⟩
      exact z
    · rintro i x σ H hx ⟨o1, o2, rfl, ei, ti⟩
      obtain ⟨hpl, hnu, hsm⟩ := mem_of_at all4 hx
      walk_at "k"
      refine g_met ti fun H4 x4 t4 => ?_
      have g4 := (noTb_no J3).ex ei x4
      walk_at "k"
      refine g_new (sz (of_decide_eq_true rfl)) fun on H5 non e5 hon b5 => ?_
      have g5 := g4.trans e5
      walk_at "k"
      refine ⟨b, .ref on, x, rfl, .inr ⟨R, gb7.ex g5, g, .inr ⟨[1], ⟨⟨on, rfl, .inl (sq_of hon)⟩, by decide, fun x hx => by rw [List.mem_singleton.mp hx]; decide⟩, fun ⟨_, _, z, _⟩ => (by cases z), fun _ => .inl ⟨hpl.ex g5, hnu, errW_of (.inr (.inr (.inr ⟨rfl, rfl⟩))) fun H6 q1 e6 nq1 hq1 => ?_⟩⟩⟩⟩
      have g6 := g5.trans e6
      walk_at "k"
      refine g_new (sz (of_decide_eq_true rfl)) fun fo H7 nfo e7 hfo b7 => ?_
      walk_at "k"
      refine ⟨ty_L hfo, ?_⟩
      walk_at "k"
      refine g_met (((t4.ext e5).ext e6).ext e7) fun H8 x8 t8 => ?_
      have g8 := (noTb_no J3).ex (g6.trans e7) x8
      walk_at "k"
      refine ⟨b, x, rfl, .inr ⟨R, gb7.ex g8, g, .inl ⟨hpl.ex g8, hnu, errW_of (.inr (.inr (.inr ⟨rfl, rfl⟩))) fun H9 q2 e9 nq2 hq2 => ?_⟩⟩⟩
      have hfo9 := e9 _ _ (x8 _ _ hfo fun ps z => by cases z)
      have hq19 := e9 _ _ (x8 _ _ (e7 _ _ hq1) fun ps z => by cases z)
      walk_at "k"
      refine g_app hfo9 (szl (of_decide_eq_true rfl)) fun H10 b10 h10 => ?_
      have g10 := ex_but (g8.trans e9) (none_ex g6 nfo) b10
      have t10 : LamX.Tabs (TLs K) H10 := tabs_exB (S := [fo]) (t8.ext e9) (fun b o hb z => by rw [b10 b (fun w => hb (by rw [w]; simp))]; exact z) (fun b hb => by rw [List.mem_singleton.mp hb]; exact ⟨_, hfo9⟩)
      have hq110 : H10 q1 = some (.tup [.str "number", x]) := by
        rw [b10 q1 (fun z => by rw [z, hfo9] at hq19; cases hq19)]
        exact hq19
      have hq210 : H10 q2 = some (.tup [.str "number", x]) := by
        rw [b10 q2 (fun z => by rw [z, hfo9] at hq2; cases hq2)]
        exact hq2
      walk_at "k"
      with_reducible refine g_ifS ?_
      walk_at "k"
      refine g_newT (sz (of_decide_eq_true rfl)) fun tq H13 n13 e13 h13 b13 => ?_
      walk_at "k"
      refine g_new (sz (of_decide_eq_true rfl)) fun lq H14 n14 e14 h14 b14 => ?_
      walk_at "k"
      refine g_rep h14 (by decide) (by decide) (of_decide_eq_true rfl) fun lr H15 n15 e15 h15 => ?_
      walk_at "k"
      have r15 := e13.trans (e14.trans e15)
      have g15 := g10.trans r15
      have z15 := e15 _ _ (e14 _ _ h13)
      have hs := hsm.ex g15
      refine ⟨.ref fo, .ref lr, rfl, sm_lst (r15 _ _ h10) h15 (of_decide_eq_true rfl) (.cons (sm_two (st_of (r15 _ _ hq110)) (st_of z15) hs) (.cons (sm_two (st_of (r15 _ _ hq210)) (st_of z15) hs) .nil)), fun H16 e16 => ?_⟩
      walk_at "k"
      exact ⟨_, _, rfl, g15.trans e16, (t10.ext r15).ext e16⟩
    rintro σ H ⟨o1, o2, rfl, ei, ti⟩
    walk_at "k"
    exact q H
end
end Tk
namespace Tk
open PySem PySem.Spec PyProof.Rows L2
open Evl (Ex ex_l ex_t ex_rd sq_of st_of fresh_back)
/-! ### rules and books where the stream and the tables are left out -/
section
variable {K : PySem.W.Frag} {H H' : Hp} {a c : Addr} {n : Nat} {v : V} {r : Rl} {R : List Rl}
theorem RuleT.noTb (q : RuleT K H v r) : RuleT K (noTb H) v r := by
  obtain ⟨t, h1, h2⟩ := q
  exact ⟨t, h1, sqT_noTb h2⟩
theorem RuleT.gh (q : RuleT K H v r) (s : StA H a c n) : RuleT K (gh a c H) v r := (q.hid s).noTb
theorem BookAt.noTb (h : BookAt K H v R) : BookAt K (noTb H) v R := by
  obtain ⟨b, dx, t, fs, ys, h1, h2, h3, h4, h5⟩ := h
  exact ⟨b, dx, t, fs, ys, h1, noTb_of h2 (fun ps z => by cases z), h3, sqT_noTb h4, prd_mono (fun _ _ z => RuleT.noTb z) h5⟩
theorem BookAt.gh (h : BookAt K H v R) (s : StA H a c n) : BookAt K (gh a c H) v R := by
  obtain ⟨b, dx, t, fs, ys, h1, h2, h3, h4, h5⟩ := h
  refine ⟨b, dx, t, fs, ys, h1, gh_of h2 (fun ps z => by cases z) (fun z => ?_) (fun z => ?_), h3, sqT_noTb (sqT_hid h4 s), prd_mono (fun _ _ z => RuleT.gh z s) h5⟩
  · obtain ⟨_, _, _, _, _, ha, _⟩ := s
    rw [z, ha] at h2
    cases h2
  · obtain ⟨_, _, _, _, _, _, hc, _⟩ := s
    rw [z, hc] at h2
    cases h2
end
theorem srt_eq {S R : List Rl} (g : Goods R) (p : S.Perm R) (s1 : Srt S) (s2 : Srt R) : S = R :=
  srt_uniq (key := line) (fun x hx y hy e => line_inj (g.good x (p.mem_iff.mp hx)) (g.good y (p.mem_iff.mp hy)) e) p s1 s2
/-! ### the book of the example -/
def r1 : Rl := ⟨1, some 2, "one", 0, 1⟩
def r2 : Rl := ⟨2, some 2, "none", 0, 1⟩
def r3 : Rl := ⟨0, some 0, "two", 1, 3⟩
def R0 : List Rl := [r1, r2, r3]
theorem good_nil : Goods [] := ⟨fun r h => (by cases h), .nil, fun r h => (by cases h), by decide⟩
theorem good_R0 : Goods R0 := by
  refine ⟨fun r h => ?_, by decide, fun r h s h' => ?_, by decide⟩
  · simp only [R0, List.mem_cons, List.not_mem_nil, or_false] at h
    rcases h with rfl | rfl | rfl <;> refine ⟨by decide, by decide, by decide, by decide, by decide, by decide, by decide, by decide, by decide, fun k hk => ?_⟩ <;> cases hk <;> decide
  · simp only [R0, List.mem_cons, List.not_mem_nil, or_false] at h h'
    rcases h with rfl | rfl | rfl <;> rcases h' with rfl | rfl | rfl <;> exact ⟨by decide, by decide⟩
theorem ways_permR {S R : List Rl} {h : Int} {o : List Int} (p : S.Perm R) : (ways S h o).Perm (ways R h o) := p.filter _
theorem leg_permR {S R : List Rl} {o : List Int} (p : S.Perm R) : legB S o = legB R o := funext fun h => by
  have e := (ways_permR (h := h) (o := o) p).length_eq
  unfold legB
  cases h1 : ways S h o <;> cases h2 : ways R h o <;> rw [h1, h2] at e <;> simp at e ⊢
theorem heaps_permR {S R : List Rl} {o : List Int} {m : Nat} (p : S.Perm R) : heapsOf S o m = heapsOf R o m := by
  unfold heapsOf
  rw [leg_permR p]
theorem end_permR {S R : List Rl} (p : S.Perm R) : endB S = endB R := funext fun h => by
  unfold endB
  congr 1
  rw [Bool.eq_iff_iff, List.any_eq_true, List.any_eq_true]
  constructor
  · rintro ⟨r, h1, h2⟩
    exact ⟨r, p.mem_iff.mp h1, h2⟩
  · rintro ⟨r, h1, h2⟩
    exact ⟨r, p.mem_iff.mpr h1, h2⟩
theorem ends_permR {S R : List Rl} {m : Nat} (p : S.Perm R) : endsOf S m = endsOf R m := by
  unfold endsOf
  rw [end_permR p]
theorem ways_R0 : ways R0 4 [2] = [r1] := by decide +kernel
theorem heaps_R0 : heapsOf R0 [2] 9 = [3, 4] := by decide +kernel
theorem ends_R0 : endsOf R0 9 = [1] := by decide +kernel
theorem ends_0 : endsOf [] 3 = [1, 2, 3] := by decide +kernel
theorem heaps_R1 : heapsOf R0 [] 400 = [2] := by decide +kernel
theorem heaps_R2 : heapsOf R0 [3, 397] 400 = [400] := by decide +kernel
theorem way_R0 {S : List Rl} (p : S.Perm R0) : ways S 4 [2] = [r1] := by
  have q := ways_permR (h := 4) (o := [2]) p
  rw [ways_R0] at q
  exact List.perm_singleton.mp q
theorem leg_R0 {S : List Rl} (p : S.Perm R0) : Legal S 4 [2] := legal_ways.mpr (by rw [way_R0 p]; simp)
end Tk
namespace Tk
open PySem PySem.Spec PyProof.Rows L2
open Evl (Ex ex_l ex_t ex_rd sq_of st_of fresh_back)
local macro_rules | `(tactic| walk_at "g") => `(tactic| (repeat (first
  | (with_reducible refine g_seq ?_) | (with_reducible refine g_asg ?_) | (with_reducible refine g_name ?_) | (with_reducible refine g_sub ?_)
  | ((with_reducible refine' g_var ?e ?_); (case e => exact rfl)) | (with_reducible refine g_c ?_) | (with_reducible refine g_op ?_) | (with_reducible refine g_un ?_) | (with_reducible refine g_U ?_)
  | (with_reducible refine g_I0 ?_) | (with_reducible refine g_eqI ?_) | (with_reducible refine g_neI ?_) | (with_reducible refine g_eqS ?_) | (with_reducible refine g_neS ?_) | (with_reducible refine g_eqB ?_) | (with_reducible refine g_neB ?_)
  | (with_reducible refine g_test ?_) | (with_reducible refine g_tB ?_) | (with_reducible refine g_bl ?_) | (with_reducible refine g_and ?_) | (with_reducible refine g_or ?_) | (with_reducible refine g_not ?_)
  | (with_reducible refine g_andV ?_) | (with_reducible refine g_orV ?_) | (with_reducible refine g_notV ?_) | (with_reducible refine g_ifE ?_) | (with_reducible refine g_ifS ?_)
  | (with_reducible refine g_next ?_) | (with_reducible refine g_ret ?_) | (with_reducible refine g_drop ?_) | (with_reducible refine g_nil ?_) | (with_reducible refine g_cons ?_) | (with_reducible refine g_call ?_)
  | (with_reducible refine g_cb ?_) | (with_reducible refine g_bm ?_) | (with_reducible refine g_lst ?_) | (with_reducible refine g_tup ?_) | (with_reducible refine iteT ?_) | (with_reducible refine iteF ?_) | (with_reducible refine g_nt ?_) | (with_reducible refine g_nf ?_)
  | (with_reducible refine g_par ?_) | (with_reducible refine g_par3 ?_) | (with_reducible refine g_two ?_) | (with_reducible refine g_three ?_) | (with_reducible refine g_ckw ?_) | (with_reducible refine g_yes ?_) | (with_reducible refine g_chain ?_) | (with_reducible refine g_gnil ?_) | (with_reducible refine g_gcons ?_) | (with_reducible refine g_fld ?_) | (with_reducible refine g_sfld ?_) | (with_reducible refine g_isN ?_) | (with_reducible refine g_nint ?_) | (with_reducible refine g_nintB ?_) | (with_reducible refine g_max ?_) | (with_reducible refine g_min ?_))))
local macro_rules | `(tactic| walk_at "k") => `(tactic| (repeat (first
  | (with_reducible refine g_seq ?_) | (with_reducible refine g_asg ?_) | (with_reducible refine g_name ?_) | (with_reducible refine g_sub ?_)
  | ((with_reducible refine' g_var ?e ?_); (case e => exact rfl)) | (with_reducible refine g_c ?_) | (with_reducible refine g_op ?_) | (with_reducible refine g_un ?_) | (with_reducible refine g_U ?_)
  | (with_reducible refine g_I0 ?_) | (with_reducible refine g_eqI ?_) | (with_reducible refine g_neI ?_) | (with_reducible refine g_eqS ?_) | (with_reducible refine g_neS ?_) | (with_reducible refine g_eqB ?_) | (with_reducible refine g_neB ?_)
  | (with_reducible refine g_test ?_) | (with_reducible refine g_tB ?_) | (with_reducible refine g_bl ?_) | (with_reducible refine g_and ?_) | (with_reducible refine g_or ?_) | (with_reducible refine g_not ?_)
  | (with_reducible refine g_andV ?_) | (with_reducible refine g_orV ?_) | (with_reducible refine g_notV ?_) | (with_reducible refine g_ifE ?_)
  | (with_reducible refine g_next ?_) | (with_reducible refine g_ret ?_) | (with_reducible refine g_drop ?_) | (with_reducible refine g_nil ?_) | (with_reducible refine g_cons ?_) | (with_reducible refine g_call ?_)
  | (with_reducible refine g_cb ?_) | (with_reducible refine g_bm ?_) | (with_reducible refine g_lst ?_) | (with_reducible refine g_tup ?_) | (with_reducible refine iteT ?_) | (with_reducible refine iteF ?_) | (with_reducible refine g_nt ?_) | (with_reducible refine g_nf ?_)
  | (with_reducible refine g_par ?_) | (with_reducible refine g_par3 ?_) | (with_reducible refine g_two ?_) | (with_reducible refine g_three ?_) | (with_reducible refine g_ckw ?_) | (with_reducible refine g_yes ?_) | (with_reducible refine g_chain ?_) | (with_reducible refine g_gnil ?_) | (with_reducible refine g_gcons ?_) | (with_reducible refine g_fld ?_) | (with_reducible refine g_sfld ?_) | (with_reducible refine g_isN ?_) | (with_reducible refine g_nint ?_) | (with_reducible refine g_nintB ?_) | (with_reducible refine g_max ?_) | (with_reducible refine g_min ?_))))
theorem ite_same {b : Prop} [Decidable b] {A : Prop} (h : A) : if b then A else A := by
  by_cases c : b
  · rw [if_pos c]
    exact h
  · rw [if_neg c]
    exact h
theorem BookAt.but {K : PySem.W.Frag} {H H' : Hp} {fo : Addr} {zs : List V} {v : V} {R : List Rl} (h : BookAt K H v R) (b : But fo H H') (hf : H fo = some (.lst zs)) : BookAt K H' v R := by
  obtain ⟨x, dx, t, fs, ys, h1, h2, h3, h4, h5⟩ := h
  exact ⟨x, dx, t, fs, ys, h1, (b x fun z => by rw [z, hf] at h2; cases h2).trans h2, h3, ex_t (del_but b) (sqT_del h4 hf), prd_mono (fun _ _ z => RuleT.but z b hf) h5⟩
def spLaw (K : PySem.W.Frag) : Sp := fun vs H Q _ => ∃ (s : Addr) (cs : List Int), vs = [.ref s] ∧ SqL K H s (cs.map V.int) ∧ LamX.Tabs (TLs K) H ∧ ∀ H', Q (.bl true) H'
section
variable {P : Program} {w : World} {K : PySem.W.Frag} {mg : Str → Option Value} {base : Heap}
theorem sc_law : FnScope ["_law_script", "_law_stream", "_law_turn", "_law_raw", "_law_made", "_law_heap", "_law_some", "_law_great", "_law_found", "_law_due"] ["_law_script"] (defScope st_law) := ⟨rfl, rfl, rfl, by decide +kernel, rfl, by decide +kernel, by decide +kernel⟩
theorem ok_law (T : Txt K mg) (TB1 : LamX.TabB base mg (He.cT K ("_law_ways_right", none)).1 (He.cT K ("_law_ways_right", none)).2) (TB2 : LamX.TabB base mg (He.cT K ("_law_refused_right", none)).1 (He.cT K ("_law_refused_right", none)).2) : KeptG P w K mg base 10 "law" ["_law_script"] (spLaw K) := by
  have G_w_start := ok_w_start (P := P) (w := w) (base := base) T
  have G_w_a_book := ok_w_a_book (P := P) (w := w) (base := base) T
  have G_w_b_wide := ok_w_b_wide (P := P) (w := w) (base := base) T
  have G_w_a_made := ok_w_a_made (P := P) (w := w) (base := base) T
  have G_w_draw := ok_w_draw (P := P) (w := w) (base := base) T
  have G_w_mixed := ok_w_mixed (P := P) (w := w) (base := base) T
  have G_w_a_options := ok_w_a_options (P := P) (w := w) (base := base) T
  have G_w_ways_right := ok_w_ways_right (P := P) (w := w) (base := base) T TB1
  have G_w_back_right := ok_w_back_right (P := P) (w := w) (base := base) T
  have G_w_refused_right := ok_w_refused_right (P := P) (w := w) (base := base) T TB2
  have G_w_same := ok_w_same (P := P) (w := w) (base := base) T 6
  have G_ways_to := ok_ways_to (P := P) (w := w) (base := base) T
  have G_heaps_from := ok_heaps_from (P := P) (w := w) (base := base) T
  have G_ends := ok_ends (P := P) (w := w) (base := base) T
  obtain ⟨fdB, FB, BB⟩ := T.bookF
  refine keptG T.d_law sc_law (fun vs H Q E h => ?_) (fun A outer s H0 vs Q E hr hgd h => ?_)
  · obtain ⟨s, cs, rfl, _⟩ := h
    rfl
  · obtain ⟨s, cs, rfl, hs, tb, q⟩ := h
    refine ⟨_, (pss_cons (ps_set (i := 1) sc_law.nd rfl (Or.inl rfl) (pe_c G_w_start (hr.mono (by decide)) pass0 (pa_cons (pv 0) pa_nil)))
      (pss_cons (ps_for PassesOwn.never rfl (pi_range1 (by rfl) T.f_range (pa_cons pe_int pa_nil)) (pg_name (i := 2) sc_law.nd rfl (Or.inl rfl)) (pss_cons (ps_set (i := 3) sc_law.nd rfl (Or.inl rfl) (pe_ifExp (pt_cmpR op_lt (pv 2) pe_int (nomark _)) (pe_c G_w_a_book (hr.mono (by decide)) pass0 (pa_cons (pv 1) pa_nil)) (pe_c G_w_b_wide (hr.mono (by decide)) pass0 (pa_cons (pv 1) pa_nil))))
      (pss_cons (ps_set (i := 4) sc_law.nd rfl (Or.inl rfl) (pe_c G_w_a_made (hr.mono (by decide)) pass0 (pa_cons (pv 1) (pa_cons (pv 3) pa_nil))))
      (pss_cons (ps_for PassesOwn.never rfl (pi_q (pe_tup (pa_cons (pe_op op_add pe_int (pe_c G_w_draw (hr.mono (by decide)) pass0 (pa_cons (pv 1) (pa_cons pe_int pa_nil)))) (pa_cons (pe_op op_add pe_int (pe_c G_w_draw (hr.mono (by decide)) pass0 (pa_cons (pv 1) (pa_cons pe_int pa_nil)))) pa_nil)))) (pg_name (i := 5) sc_law.nd rfl (Or.inl rfl)) (pss_cons (ps_set (i := 6) sc_law.nd rfl (Or.inl rfl) (pe_slice sl_list (pe_c G_w_mixed (hr.mono (by decide)) pass0 (pa_cons (pv 1) (pa_cons (pe_c G_w_a_options (hr.mono (by decide)) pass0 (pa_cons (pv 3) (pa_cons (pv 5) pa_nil))) pa_nil))) po_none (po_some pe_int)))
      (pss_one (ps_if (pt_not (pt_val (pe_cG G_w_ways_right (hr.mono (by decide)) hgd pass0 (pa_cons (pv 1) (pa_cons (pv 3) (pa_cons (pv 4) (pa_cons (pv 5) (pa_cons (pv 6) pa_nil)))))))) (pss_one (ps_ret pe_bl)) pss_nil))))
      (pss_cons (ps_set (i := 7) sc_law.nd rfl (Or.inl rfl) (pe_op op_sub (pe_op op_pow pe_int pe_int) (pe_c G_w_draw (hr.mono (by decide)) pass0 (pa_cons (pv 1) (pa_cons pe_int pa_nil)))))
      (pss_cons (ps_set (i := 6) sc_law.nd rfl (Or.inl rfl) (pe_lst (pa_cons (pe_lst (pa_cons (pe_op op_sub (pv 7) pe_int) pa_nil)) (pa_cons (pe_lst (pa_cons (pe_op op_sub (pv 7) pe_int) pa_nil)) (pa_cons (pe_lst (pa_cons pe_int (pa_cons (pe_op op_sub (pv 7) pe_int) pa_nil))) (pa_cons (pe_lst (pa_cons pe_int (pa_cons (pe_op op_sub (pv 7) pe_int) pa_nil))) (pa_cons (pe_lst (pa_cons (pe_op op_fdivN (pv 7) pe_int) (pa_cons (pe_op op_sub (pv 7) (pe_op op_fdivN (pv 7) pe_int)) pa_nil))) (pa_cons (pe_lst (pa_cons pe_int pa_nil)) pa_nil))))))))
      (pss_cons (ps_if (pt_not (pt_val (pe_cG G_w_ways_right (hr.mono (by decide)) hgd pass0 (pa_cons (pv 1) (pa_cons (pv 3) (pa_cons (pv 4) (pa_cons (pv 7) (pa_cons (pv 6) pa_nil)))))))) (pss_one (ps_ret pe_bl)) pss_nil)
      (pss_one (ps_if (pt_not (pt_val (pe_c G_w_back_right (hr.mono (by decide)) pass0 (pa_cons (pv 1) (pa_cons (pv 3) (pa_cons (pv 4) (pa_cons (pe_op op_add pe_int (pe_c G_w_draw (hr.mono (by decide)) pass0 (pa_cons (pv 1) (pa_cons pe_int pa_nil)))) pa_nil))))))) (pss_one (ps_ret pe_bl)) pss_nil)))))))))
      (pss_cons (ps_set (i := 4) sc_law.nd rfl (Or.inl rfl) (pe_make T.bookM (ok_Book_init T FB) (hr.mono (by decide)) (by rfl) T.bookG BB .nil pass0 (pa_cons (pe_lst (pa_cons (pe_tup (pa_cons pe_int (pa_cons pe_int (pa_cons pe_str (pa_cons pe_int (pa_cons pe_int pa_nil)))))) (pa_cons (pe_tup (pa_cons pe_int (pa_cons pe_int (pa_cons pe_str (pa_cons pe_int (pa_cons pe_int pa_nil)))))) (pa_cons (pe_tup (pa_cons pe_int (pa_cons pe_int (pa_cons pe_str (pa_cons pe_int (pa_cons pe_int pa_nil)))))) pa_nil)))) pa_nil)))
      (pss_cons (ps_set (i := 8) sc_law.nd rfl (Or.inl rfl) (pe_lst (pa_cons (pe_c G_ways_to (hr.mono (by decide)) passF (pa_cons (pv 4) (pa_cons pe_int (pa_cons (pe_lst (pa_cons pe_int pa_nil)) pa_nil)))) (pa_cons (pe_c G_heaps_from (hr.mono (by decide)) passF (pa_cons (pv 4) (pa_cons (pe_lst (pa_cons pe_int pa_nil)) (pa_cons pe_int pa_nil)))) (pa_cons (pe_c G_ends (hr.mono (by decide)) passF (pa_cons (pv 4) (pa_cons pe_int pa_nil))) (pa_cons (pe_c G_ends (hr.mono (by decide)) passF (pa_cons (pe_make T.bookM (ok_Book_init T FB) (hr.mono (by decide)) (by rfl) T.bookG BB .nil pass0 (pa_cons (pe_lst pa_nil) pa_nil)) (pa_cons pe_int pa_nil))) pa_nil))))))
      (pss_cons (ps_expr (pe_bmK K PySem.F.plainAttrs_list PySem.F.slot_list_extend PySem.F.type_list_extend mt_extend (pv 8) (pa_cons (pe_lst (pa_cons (pe_c G_heaps_from (hr.mono (by decide)) passF (pa_cons (pv 4) (pa_cons (pe_lst pa_nil) (pa_cons pe_int pa_nil)))) (pa_cons (pe_c G_heaps_from (hr.mono (by decide)) passF (pa_cons (pv 4) (pa_cons (pe_lst (pa_cons pe_int (pa_cons pe_int pa_nil))) (pa_cons pe_int pa_nil)))) pa_nil))) pa_nil)))
      (pss_cons (ps_set (i := 9) sc_law.nd rfl (Or.inl rfl) (pe_lst (pa_cons (pe_lst (pa_cons (pe_tup (pa_cons (pe_tup (pa_cons pe_int (pa_cons pe_int (pa_cons pe_str (pa_cons pe_int (pa_cons pe_int pa_nil)))))) (pa_cons pe_int pa_nil))) pa_nil)) (pa_cons (pe_lst (pa_cons pe_int (pa_cons pe_int pa_nil))) (pa_cons (pe_lst (pa_cons pe_int pa_nil)) (pa_cons (pe_lst (pa_cons pe_int (pa_cons pe_int (pa_cons pe_int pa_nil)))) (pa_cons (pe_lst (pa_cons pe_int pa_nil)) (pa_cons (pe_lst (pa_cons pe_int pa_nil)) pa_nil))))))))
      (pss_one (ps_ret (pe_and (pe_c G_w_same (hr.mono (by decide)) pass0 (pa_cons (pv 8) (pa_cons (pv 9) pa_nil))) (pe_one (pe_c G_w_refused_right (hr.mono (by decide)) pass0 (pa_cons (pv 4) pa_nil)))))))))))), ?_⟩
    walk_at "k"
    refine ⟨s, cs, rfl, hs, fun H1 a c e1 na nc s1 => ?_⟩
    have t1 := tb.ext e1
    walk_at "k"
    refine g_forR1 (n := 6) (fun RR hRR => ?_) (by decide) (by decide) (fun i σ H => ∃ o2 o3 o4 o5 o6 o7 : Option V, σ = [some (.ref s), some (.ref a), o2, o3, o4, o5, o6, o7, none, none] ∧ StA H a c (i * 4000) ∧ LamX.Tabs (TLs K) H) ?_ ?_ ?_
    · walk_at "k"
      exact hRR
    · exact ⟨_, _, _, _, _, _, rfl, s1.mono (by omega), t1⟩
    · rintro i σ H hi ⟨o2, o3, o4, o5, o6, o7, rfl, st, ti⟩
      walk_at "k"
      obtain ⟨n, hn⟩ : ∃ n, n = i * 4000 := ⟨_, rfl⟩
      rw [← hn] at st
      have hi6 : i < 6 := by omega
      refine ite_same ?_
      walk_at "k"
      refine ⟨a, c, n, rfl, st, by omega, fun H2 l ys R x2 s2 nl hl hR g hso => ?_⟩
      have t2 := tabs_exB ti x2 st.ls
      walk_at "k"
      have wl := (st.na nl)
      have hlG : gh a c H2 l = some (.lst ys) := gh_of hl (fun ps z => by cases z) wl.1 wl.2
      refine ⟨gh a c H2, a, c, l, n + 70, ys, R, rfl, fr_gh s2, by omega, sq_of hlG, prd_mono (fun _ _ z => RuleT.gh z s2) hR, g, fun H3 b S x3 s3 hB hSR hsrt => ?_⟩
      rw [srt_eq g hSR hsrt hso] at hB
      have hB3 : BookAt K (gh a c H3) b R := BookAt.gh (hB.ex (new_ex x3 s2.ls)) s3
      have t3 := tabs_exB t2 x3 s2.ls
      have f3 : Fr (gh a c H3) H3 a c (n + 100) := fr_gh s3
      have g23 := gh_mono x3
      have hl3 := g23 _ _ hlG
      have hR3 := prd_mono (fun _ _ z => RuleT.ex z g23) (prd_mono (fun _ _ z => RuleT.gh z s2) hR)
      walk_at "k"
      refine g_forI ?_
      walk_at "k"
      refine ⟨a, c, n + 100, 5, rfl, by decide, by decide, s3, by omega, fun H4 d1 x4 s4 d10 d1m => ?_⟩
      walk_at "k"
      refine ⟨a, c, n + 101, 30, rfl, by decide, by decide, s4, by omega, fun H5 d2 x5 s5 d20 d2m => ?_⟩
      walk_at "k"
      refine g_newT (sz (of_decide_eq_true rfl)) fun tp H6 ntp e6 htp b6 => ?_
      walk_at "k"
      have s6 : StA H6 a c (n + 102) := s5.ex e6
      have g36 := ((gh_mono x4).trans (gh_mono x5)).trans (gh_mono (exB_of (S := [a, c]) e6))
      have t6 := (tabs_exB (tabs_exB t3 x4 s3.ls) x5 s4.ls).ext e6
      have htpG : gh a c H6 tp = some (.tup [.int (1 + d1), .int (1 + d2)]) := gh_of htp (fun ps z => by cases z) (s5.na ntp).1 (s5.na ntp).2
      obtain ⟨G, hG⟩ : ∃ G, G = gh a c H6 := ⟨_, rfl⟩
      have nt : NoTb G := by
        rw [hG]
        exact gh_no _ _ _
      have f6 : Fr G H6 a c (n + 102) := by
        rw [hG]
        exact fr_gh s6
      rw [← hG] at g36 htpG
      have hlg := g36 _ _ hl3
      have hRg := prd_mono (fun _ _ z => RuleT.ex z g36) hR3
      have hBg := hB3.ex g36
      clear hG
      refine over_for (G := G) (xs := [V.int (1 + d1), V.int (1 + d2)]) (.inr (st_of htpG)) f6.ex (fun j σ H => ∃ o5 o6 o7 : Option V, σ = [some (.ref s), some (.ref a), some (.int i), some (.ref l), some b, o5, o6, o7, none, none] ∧ Fr G H a c (n + 102 + j * 1300) ∧ LamX.Tabs (TLs K) H) ?_ ?_ ?_ ?_
      · exact ⟨_, _, _, rfl, ⟨f6.ex, f6.ga, f6.gc, f6.st.mono (by omega)⟩, t6⟩
      · rintro j σ H ⟨_, _, _, _, z, _⟩
        exact z.ex
      · rintro j x σ H hx ⟨o5, o6, o7, rfl, fj, tj⟩
        have hj : j < 2 := (List.getElem?_eq_some_iff.mp hx).1
        obtain ⟨h, rfl, h1, h40⟩ : ∃ h : Int, x = .int h ∧ 1 ≤ h ∧ h ≤ 40 := by
          have hm := List.mem_of_getElem? hx
          simp only [List.mem_cons, List.not_mem_nil, or_false] at hm
          rcases hm with rfl | rfl
          · exact ⟨_, rfl, by omega, by omega⟩
          · exact ⟨_, rfl, by omega, by omega⟩
        clear hx
        walk_at "k"
        obtain ⟨k, hk⟩ : ∃ k, k = n + 102 + j * 1300 := ⟨_, rfl⟩
        have hkb : k ≤ n + 102 + 1300 := by omega
        rw [← hk] at fj
        with_reducible refine g_sl ?_
        walk_at "k"
        refine ⟨l, ys, R, h, rfl, ex_l fj.ex (sq_of hlg), prd_mono (fun _ _ z => RuleT.ex z fj.ex) hRg, g, h1, h40, fun H7 p ws os e7 np hp hws hos hol => ?_⟩
        have f7 := fj.exq e7
        have t7 := tj.ext e7
        have hwl : ws.length ≤ 1000 := by rw [prd_len hws]; exact hol
        have hpG : gh a c H7 p = some (.lst ws) := gh_new fj.st np hp (fun ps z => by cases z)
        have hwsG : Paired (LiN K (gh a c H7)) ws os := prd_mono (fun _ _ z => LiN.gh z (exB_of e7) fj.st) hws
        walk_at "k"
        refine ⟨gh a c H7, a, c, p, k, ws, rfl, fr_gh f7.st, by omega, sq_of hpG, hwl, fun H8 p8 zs x8 s8 np8 hp8 hperm => ?_⟩
        have t8 := tabs_exB t7 x8 f7.st.ls
        have f8 : Fr G H8 a c (k + ws.length) := f7.nx x8 s8
        walk_at "k"
        with_reducible refine g_nopart ?_
        with_reducible refine g_part ?_
        walk_at "k"
        refine ⟨8, rfl, ?_⟩
        refine g_slTo (m := 8) (sq_of hp8) (by decide) fun p9 H9 n9 e9 h9 => ?_
        have f9 := f8.exq e9
        have t9 := t8.ext e9
        have w9 := f8.fresh n9
        have g79 := (gh_mono x8).trans (gh_mono (exB_of (S := [a, c]) e9))
        have g9 : Ex G (gh a c H9) := f9.gh nt
        walk_at "k"
        with_reducible refine g_ifS ?_
        walk_at "k"
        refine ⟨gh a c H9, a, c, l, p9, b, k + ws.length, h, ys, zs.take 8, R, rfl, fr_gh f9.st, gh_no _ _ _, t9, by omega, ex_l g9 (sq_of hlg), prd_mono (fun _ _ z => RuleT.ex z g9) hRg, g, hso, hBg.ex g9, h1, by omega, gh_of h9 (fun ps z => by cases z) w9.2.1 w9.2.2, by rw [List.length_take]; omega, fun x hx => ?_, fun H10 f10 t10 => ?_⟩
        · have hxm : x ∈ ws := hperm.mem_iff.mp (List.mem_of_mem_take hx)
          obtain ⟨o, ho, t, rfl, hto⟩ := prd_mem hwsG hxm
          exact ⟨t, o, rfl, ex_l g79 hto, (opts_ord hos (by omega) ho).1⟩
        · walk_at "k"
          exact ⟨_, _, _, rfl, ⟨g9.trans f10.ex, fj.ga, fj.gc, f10.st.mono (by rw [Nat.succ_mul]; omega)⟩, t10⟩
      · rintro σ H ⟨o5, o6, o7, rfl, fj, tj⟩
        walk_at "k"
        have fj' : Fr G H a c (n + 2702) := fj
        refine g_I (by unfold CPow; decide) ?_
        walk_at "k"
        refine ⟨a, c, n + 2702, 50, rfl, by decide, by decide, fj'.st, by omega, fun H7 d x7 s7 d0 dm => ?_⟩
        have f7 : Fr G H7 a c (n + 2703) := fj'.nx x7 s7
        have t7 := tabs_exB tj x7 fj'.st.ls
        walk_at "k"
        obtain ⟨gr, hgr⟩ : ∃ gr : Int, gr = 10 ^ Int.toNat 18 - d := ⟨_, rfl⟩
        have e18 : (10 : Int) ^ Int.toNat 18 = 1000000000000000000 := by decide
        rw [← hgr]
        rw [e18] at hgr
        refine g_new (sz (of_decide_eq_true rfl)) fun u1 I1 m1 f1 z1 c1 => ?_
        walk_at "k"
        refine g_new (sz (of_decide_eq_true rfl)) fun u2 I2 m2 f2 z2 c2 => ?_
        walk_at "k"
        refine g_new (sz (of_decide_eq_true rfl)) fun u3 I3 m3 f3 z3 c3 => ?_
        walk_at "k"
        refine g_new (sz (of_decide_eq_true rfl)) fun u4 I4 m4 f4 z4 c4 => ?_
        walk_at "k"
        refine g_I ⟨by decide, by decide⟩ ?_
        walk_at "k"
        refine g_I ⟨by decide, by decide⟩ ?_
        walk_at "k"
        rw [Int.fdiv_eq_ediv_of_nonneg _ (by decide)]
        refine g_new (sz (of_decide_eq_true rfl)) fun u5 I5 m5 f5 z5 c5 => ?_
        walk_at "k"
        refine g_new (sz (of_decide_eq_true rfl)) fun u6 I6 m6 f6 z6 c6 => ?_
        walk_at "k"
        refine g_new (sz (of_decide_eq_true rfl)) fun us I7 m7 f7' z7 c7 => ?_
        walk_at "k"
        have r6 : Ex I6 I7 := f7'
        have r5 := f6.trans r6
        have r4 := f5.trans r5
        have r3 := f4.trans r4
        have r2 := f3.trans r3
        have r1 := f2.trans r2
        have r0 := f1.trans r1
        have F7 := f7.exq r0
        have T7 := t7.ext r0
        have G7 : Ex G (gh a c I7) := F7.gh nt
        have mk : ∀ {p : Addr} {Hi : Hp} {xs : List V}, Fr G Hi a c (n + 2703) → Hi p = none → I7 p = some (.lst xs) → gh a c I7 p = some (.lst xs) := fun fi hi h => gh_of h (fun ps z => by cases z) (fi.fresh hi).2.1 (fi.fresh hi).2.2
        have F1 := f7.exq f1
        have F2 := F1.exq f2
        have F3 := F2.exq f3
        have F4 := F3.exq f4
        have F5 := F4.exq f5
        have F6 := F5.exq f6
        have Z1 := mk f7 m1 (r1 _ _ z1)
        have Z2 := mk F1 m2 (r2 _ _ z2)
        have Z3 := mk F2 m3 (r3 _ _ z3)
        have Z4 := mk F3 m4 (r4 _ _ z4)
        have Z5 := mk F4 m5 (r5 _ _ z5)
        have Z6 := mk F5 m6 (r6 _ _ z6)
        have Z7 := mk F6 m7 z7
        with_reducible refine g_ifS ?_
        walk_at "k"
        have one : ∀ i : Int, 1 ≤ i → i ≤ 10 ^ 18 → OptI [i] := fun i h1 h2 => ⟨by simp, fun x hx => by rw [List.mem_singleton.mp hx]; exact ⟨h1, h2⟩⟩
        have two : ∀ i j : Int, 1 ≤ i → i ≤ 10 ^ 18 → 1 ≤ j → j ≤ 10 ^ 18 → OptI [i, j] := fun i j h1 h2 h3 h4 => by
          refine ⟨by simp, fun x hx => ?_⟩
          simp only [List.mem_cons, List.not_mem_nil, or_false] at hx
          rcases hx with rfl | rfl
          · exact ⟨h1, h2⟩
          · exact ⟨h3, h4⟩
        refine ⟨gh a c I7, a, c, l, us, b, n + 2703, gr, ys, _, R, rfl, fr_gh F7.st, gh_no _ _ _, T7, by omega, ex_l G7 (sq_of hlg), prd_mono (fun _ _ z => RuleT.ex z G7) hRg, g, hso, hBg.ex G7, by omega, by omega, Z7, of_decide_eq_true rfl, fun x hx => ?_, fun J1 K1 T1 => ?_⟩
        · simp only [List.mem_cons, List.not_mem_nil, or_false] at hx
          rcases hx with rfl | rfl | rfl | rfl | rfl | rfl
          · exact ⟨u1, [gr - 1], rfl, sq_of Z1, one _ (by omega) (by omega)⟩
          · exact ⟨u2, [gr - 3], rfl, sq_of Z2, one _ (by omega) (by omega)⟩
          · exact ⟨u3, [1, gr - 1], rfl, sq_of Z3, two _ _ (by omega) (by omega) (by omega) (by omega)⟩
          · exact ⟨u4, [7, gr - 8], rfl, sq_of Z4, two _ _ (by omega) (by omega) (by omega) (by omega)⟩
          · exact ⟨u5, [gr / 2, gr - gr / 2], rfl, sq_of Z5, two _ _ (by omega) (by omega) (by omega) (by omega)⟩
          · exact ⟨u6, [5], rfl, sq_of Z6, one _ (by omega) (by omega)⟩
        · walk_at "k"
          with_reducible refine g_ifS ?_
          walk_at "k"
          have B1 := hBg.ex G7
          refine ⟨a, c, n + 3003, 25, rfl, by decide, by decide, K1.st, by omega, fun J2 d' x2' s2' d0' dm' => ?_⟩
          have K2 : Fr (gh a c I7) J2 a c (n + 3004) := K1.nx x2' s2'
          have T2 := tabs_exB T1 x2' K1.st.ls
          walk_at "k"
          obtain ⟨m, hm⟩ : ∃ m : Nat, 6 + d' = (m : Int) := ⟨(6 + d').toNat, by omega⟩
          rw [hm]
          refine ⟨gh a c I7, a, c, l, b, n + 3004, m, ys, R, rfl, K2, gh_no _ _ _, T2, by omega, ex_l G7 (sq_of hlg), prd_mono (fun _ _ z => RuleT.ex z G7) hRg, g, B1, by omega, by omega, fun J3 K3 T3 => ?_⟩
          walk_at "k"
          exact ⟨_, _, _, _, _, _, rfl, K3.st.mono (by rw [Nat.succ_mul]; omega), T3⟩
    · rintro σ H ⟨o2, o3, o4, o5, o6, o7, rfl, st, ti⟩
      walk_at "k"
      with_reducible refine g_make ?_
      walk_at "k"
      refine g_newT (sz (of_decide_eq_true rfl)) fun w1 I1 m1 f1 z1 c1 => ?_
      walk_at "k"
      refine g_newT (sz (of_decide_eq_true rfl)) fun w2 I2 m2 f2 z2 c2 => ?_
      walk_at "k"
      refine g_newT (sz (of_decide_eq_true rfl)) fun w3 I3 m3 f3 z3 c3 => ?_
      walk_at "k"
      refine g_new (sz (of_decide_eq_true rfl)) fun w4 I4 m4 f4 z4 c4 => ?_
      walk_at "k"
      intro x dx nx ndx hne
      have hme := made_ex (C := He.ga K "Book") nx ndx
      have hq : ∀ {p : Addr} {r : Rl}, I4 p = some (.tup (rv r)) → RuleQ K (del (upd (upd I4 dx (.own x)) x (.ins (He.ga K "Book") dx [])) x) (.ref p) r := fun h => ⟨_, rfl, .inr (st_of (hme _ _ h))⟩
      refine ⟨x, dx, w4, [.ref w1, .ref w2, .ref w3], R0, rfl, upd_same, .inl (sq_of (hme _ _ z4)), .cons (hq (f4 _ _ (f3 _ _ (f2 _ _ z1)))) (.cons (hq (f4 _ _ (f3 _ _ z2))) (.cons (hq (f4 _ _ z3)) .nil)), good_R0, fun I5 S e5 hB hSR hsrt => ⟨rfl, ?_⟩⟩
      have gS := good_R0.perm hSR
      have f05 : Ex H I5 := f1.trans (f2.trans (f3.trans (f4.trans (hme.trans e5))))
      have t5 := ti.ext f05
      walk_at "k"
      refine g_new (sz (of_decide_eq_true rfl)) fun v1 I6 m6 f6 z6 c6 => ?_
      walk_at "k"
      have o1 : ∀ {H : Hp} {p : Addr} {i : Int}, H p = some (.lst [.int i]) → 1 ≤ i → i ≤ 10 ^ 18 → OptAt K H (.ref p) [i] := fun h h1 h2 => ⟨⟨_, rfl, .inl (sq_of h)⟩, by simp, fun x hx => by rw [List.mem_singleton.mp hx]; exact ⟨h1, h2⟩⟩
      have w1' : ∀ i : Int, ¬ Wild [i] := fun i ⟨_, _, z, _⟩ => by cases z
      refine ⟨.ref x, .int 4, .ref v1, rfl, .inr ⟨S, hB.ex f6, gS, .inr ⟨4, ⟨rfl, by decide, by decide⟩, .inr ⟨[2], o1 z6 (by decide) (by decide), fun z => absurd (leg_R0 hSR) z, fun _ => fun I7 p1 ya f7 n1 hp1 hya => ?_⟩⟩⟩⟩
      rw [way_R0 hSR] at hya
      walk_at "k"
      refine g_new (sz (of_decide_eq_true rfl)) fun v2 I8 m8 f8 z8 c8 => ?_
      walk_at "k"
      refine ⟨.ref x, .ref v2, .int ((9 : Nat) : Int), rfl, .inr ⟨S, ((hB.ex f6).ex f7).ex f8, gS, .inr ⟨[2], o1 z8 (by decide) (by decide), fun z => absurd z (w1' 2), fun _ => .inr ⟨9, rfl, by decide, fun I9 p2 f9 n2 hp2 => ?_⟩⟩⟩⟩
      rw [heaps_permR hSR, heaps_R0] at hp2
      have b9 := (((hB.ex f6).ex f7).ex f8).ex f9
      walk_at "k"
      refine ⟨.ref x, .int ((9 : Nat) : Int), rfl, .inr ⟨S, b9, gS, .inr ⟨9, rfl, by decide, fun I10 p3 f10 n3 hp3 => ?_⟩⟩⟩
      rw [ends_permR hSR, ends_R0] at hp3
      have b10 := b9.ex f10
      walk_at "k"
      with_reducible refine g_make ?_
      walk_at "k"
      refine g_new (sz (of_decide_eq_true rfl)) fun v3 I11 m11 f11 z11 c11 => ?_
      walk_at "k"
      intro y dy ny ndy hny
      have hmf := made_ex (C := He.ga K "Book") ny ndy
      refine ⟨y, dy, v3, [], [], rfl, upd_same, .inl (sq_of (hmf _ _ z11)), .nil, good_nil, fun I12 S2 f12 hB2 hS2 _ => ⟨rfl, ?_⟩⟩
      have eS2 : S2 = [] := hS2.eq_nil
      rw [eS2] at hB2
      have g12 : Ex I11 I12 := hmf.trans f12
      walk_at "k"
      refine ⟨.ref y, .int ((3 : Nat) : Int), rfl, .inr ⟨[], hB2, good_nil, .inr ⟨3, rfl, by decide, fun I13 p4 f13 n4 hp4 => ?_⟩⟩⟩
      rw [ends_0] at hp4
      have b13 := ((b10.ex f11).ex g12).ex f13
      walk_at "k"
      refine g_new (sz (of_decide_eq_true rfl)) fun fo I14 m14 f14 z14 c14 => ?_
      have b14 := b13.ex f14
      walk_at "k"
      refine ⟨ty_L z14, ?_⟩
      walk_at "k"
      refine g_new (sz (of_decide_eq_true rfl)) fun v5 I15 m15 f15 z15 c15 => ?_
      have b15 := b14.ex f15
      walk_at "k"
      refine ⟨.ref x, .ref v5, .int ((400 : Nat) : Int), rfl, .inr ⟨S, b15, gS, .inr ⟨[], ⟨⟨_, rfl, .inl (sq_of z15)⟩, by decide, fun x hx => by cases hx⟩, fun ⟨_, _, z, _⟩ => (by cases z), fun _ => .inr ⟨400, rfl, by decide, fun I16 p5 f16 n5 hp5 => ?_⟩⟩⟩⟩
      rw [heaps_permR hSR, heaps_R1] at hp5
      have b16 := b15.ex f16
      walk_at "k"
      refine g_new (sz (of_decide_eq_true rfl)) fun v6 I17 m17 f17 z17 c17 => ?_
      have b17 := b16.ex f17
      walk_at "k"
      refine ⟨.ref x, .ref v6, .int ((400 : Nat) : Int), rfl, .inr ⟨S, b17, gS, .inr ⟨[3, 397], ⟨⟨_, rfl, .inl (sq_of z17)⟩, by decide, fun x hx => ?_⟩, fun ⟨i, j, z, hij⟩ => ?_, fun _ => .inr ⟨400, rfl, by decide, fun I18 p6 f18 n6 hp6 => ?_⟩⟩⟩⟩
      · simp only [List.mem_cons, List.not_mem_nil, or_false] at hx
        rcases hx with rfl | rfl <;> decide
      · cases z
        exact absurd hij (by decide)
      rw [heaps_permR hSR, heaps_R2] at hp6
      have b18 := b17.ex f18
      walk_at "k"
      refine g_new (sz (of_decide_eq_true rfl)) fun fx I19 m19 f19 z19 c19 => ?_
      have b19 := b18.ex f19
      walk_at "k"
      have k18 := f19
      have k17 : Ex I17 I19 := f18.trans k18
      have k16 := f17.trans k17
      have k15 := f16.trans k16
      have k14 := f15.trans k15
      have k13 := f14.trans k14
      have k12 := f13.trans k13
      have k11 := g12.trans k12
      have k10 := f11.trans k11
      have k9 := f10.trans k10
      have k8 := f9.trans k9
      have k7 := f8.trans k8
      have fo19 := k14 _ _ z14
      have t19 := t5.ext (f6.trans (f7.trans k7))
      refine g_ext fo19 z19 (by simp only [List.length_cons, List.length_nil]; omega) fun I20 c20 z20 => ?_
      have x20 : ExB [fo] I19 I20 := fun b o hb z => by rw [c20 b (fun w => hb (by rw [w]; simp))]; exact z
      have t20 := tabs_exB t19 x20 fun b hb => by rw [List.mem_singleton.mp hb]; exact ⟨_, fo19⟩
      have b20 := b19.but c20 fo19
      have j7 : Ex I7 I13 := f8.trans (f9.trans (f10.trans (f11.trans (g12.trans f13))))
      have j9 : Ex I9 I13 := f10.trans (f11.trans (g12.trans f13))
      have j10 : Ex I10 I13 := f11.trans (g12.trans f13)
      have q1 : I20 p1 = some (.lst ya) := (c20 _ (ne_nil (j7 _ _ hp1) m14)).trans (k13 _ _ (j7 _ _ hp1))
      have q2 := (c20 _ (ne_nil (j9 _ _ hp2) m14)).trans (k13 _ _ (j9 _ _ hp2))
      have q3 := (c20 _ (ne_nil (j10 _ _ hp3) m14)).trans (k13 _ _ (j10 _ _ hp3))
      have q4 := (c20 _ (ne_nil hp4 m14)).trans (k13 _ _ hp4)
      have q5 := (c20 _ (ne_nil (f15 _ _ z14) n5).symm).trans (k16 _ _ hp5)
      have q6 := (c20 _ (ne_nil (f17 _ _ (f16 _ _ (f15 _ _ z14))) n6).symm).trans (k18 _ _ hp6)
      have hyd := prd_mono (fun _ _ z => WayT.but (WayT.ex z k7) c20 fo19) hya
      walk_at "k"
      refine g_newT (sz (of_decide_eq_true rfl)) fun d1 J1 u1 y1 s1 l1 => ?_
      walk_at "k"
      refine g_newT (sz (of_decide_eq_true rfl)) fun d2 J2 u2 y2 s2 l2 => ?_
      walk_at "k"
      refine g_new (sz (of_decide_eq_true rfl)) fun d3 J3 u3 y3 s3 l3 => ?_
      walk_at "k"
      refine g_new (sz (of_decide_eq_true rfl)) fun d4 J4 u4 y4 s4 l4 => ?_
      walk_at "k"
      refine g_new (sz (of_decide_eq_true rfl)) fun d5 J5 u5 y5 s5 l5 => ?_
      walk_at "k"
      refine g_new (sz (of_decide_eq_true rfl)) fun d6 J6 u6 y6 s6 l6 => ?_
      walk_at "k"
      refine g_new (sz (of_decide_eq_true rfl)) fun d7 J7 u7 y7 s7 l7 => ?_
      walk_at "k"
      refine g_new (sz (of_decide_eq_true rfl)) fun d8 J8 u8 y8 s8 l8 => ?_
      walk_at "k"
      refine g_new (sz (of_decide_eq_true rfl)) fun d9 J9 u9 y9 s9 l9 => ?_
      walk_at "k"
      have r8 : Ex J8 J9 := y9
      have r7 := y8.trans r8
      have r6 := y7.trans r7
      have r5 := y6.trans r6
      have r4 := y5.trans r5
      have r3' := y4.trans r4
      have r2' := y3.trans r3'
      have r1' := y2.trans r2'
      have r0 := y1.trans r1'
      have hdd : Paired (WayT K J9 2) [V.ref d2] [r1] := .cons ⟨d2, .ref d1, rfl, st_of (r2' _ _ s2), d1, rfl, st_of (r1' _ _ s1)⟩ .nil
      have hyd9 : Paired (WayT K J9 2) ya [r1] := prd_mono (fun _ _ z => WayT.ex z r0) hyd
      refine ⟨.ref fo, .ref d9, rfl, sm_lst (d := 5) (r0 _ _ z20) s9 (of_decide_eq_true rfl) (.cons (sm_ways (r0 _ _ q1) (r3' _ _ s3) hyd9 hdd (by decide)).up.up (.cons (sm_ints (ns := [3, 4]) (sq_of (r0 _ _ q2)) (sq_of (r4 _ _ s4)) (by decide)) (.cons (sm_ints (ns := [1]) (sq_of (r0 _ _ q3)) (sq_of (r5 _ _ s5)) (by decide)) (.cons (sm_ints (ns := [1, 2, 3]) (sq_of (r0 _ _ q4)) (sq_of (r6 _ _ s6)) (by decide))
        (.cons (sm_ints (ns := [2]) (sq_of (r0 _ _ q5)) (sq_of (r7 _ _ s7)) (by decide)) (.cons (sm_ints (ns := [400]) (sq_of (r0 _ _ q6)) (sq_of (r8 _ _ s8)) (by decide)) .nil)))))), fun J10 y10 => ?_⟩
      walk_at "k"
      exact ⟨noTb J10, .ref x, S, rfl, noTb_ex, noTb_no _, (t20.ext r0).ext y10, BookAt.noTb ((b20.ex r0).ex y10), gS, q⟩
end
end Tk
namespace Tk
open PySem PySem.Spec PyProof.Rows L2
theorem end_facts {P : Program} {w : World} {K : PySem.W.Frag} {h : Heap} {mg : Str → Option Value} {fa : Addr} (X : K.In h) (G : h.Ns mainGlobals mg) (hfa : mg ("law" : Str) = some (.ref fa)) (c : He.SaysX faL fnL [] tfL exB w h K) :
    ∃ (fd : FuncData) (cs : List (Addr × Addr)), (∀ p ∈ cs, h.get? p.2 = some { cls := .none, data := .fields #[] }) ∧ (∀ p ∈ cs, K.lookup p.2 = none) ∧ (∀ p ∈ cs, PySem.W.CodeHd h p.1 p.2) ∧ (∀ (s : Shared) (u : Value), BindsTo s fd ⟨[u], []⟩ [("_law_script", u)]) ∧
      (∀ (H : Hp) (a : Addr) (ns : List Int), ns.length ≤ 63 → (∀ p ∈ cs, H p.2 = some (.tbl #[])) → SqL K H a (ns.map V.int) → spLaw K [.ref a] H (fun v _ => v = .bl true) fun _ _ _ => False) ∧
      ∀ base : Heap, K.In base → base.Ns mainGlobals mg → (∀ p ∈ cs, LamX.TabB base mg p.1 p.2) → FnG P w K mg base 10 fa fd ["_law_script"] (spLaw K) := by
  have T := txt_of X G c
  obtain ⟨fd, D⟩ := T.d_law
  have e : He.ga K "law" = fa := by
    have := D.g.symm.trans hfa
    cases this
    rfl
  have mem : ∀ p ∈ tfL, He.cT K p ∈ tfL.map (He.cT K) := fun p hp => List.mem_map_of_mem hp
  have of : ∀ p ∈ tfL.map (He.cT K), ∃ z ∈ tfL, He.cT K z = p := fun p hp => by
    obtain ⟨z, h1, h2⟩ := List.mem_map.mp hp
    exact ⟨z, h1, h2⟩
  have t1 : (("_law_ways_right", none) : He.Defn) ∈ tfL := List.mem_cons_self
  have t2 : (("_law_refused_right", none) : He.Defn) ∈ tfL := List.mem_cons_of_mem _ List.mem_cons_self
  refine ⟨fd, tfL.map (He.cT K), fun p hp => ?_, fun p hp => ?_, fun p hp => ?_, fun s u => ?_, fun H a ns _ ht hS => ?_, fun base kb gb tb => ?_⟩
  · obtain ⟨z, h1, rfl⟩ := of p hp
    exact c.empty z h1
  · obtain ⟨z, h1, rfl⟩ := of p hp
    exact c.out z h1
  · obtain ⟨z, h1, rfl⟩ := of p hp
    exact PySem.W.codeHd_of_K X (c.hd z h1)
  · exact (FunD.bindsA (ps := ["_law_script"]) D.F fun _ _ _ _ _ _ us hl => match us, hl with | [_], _ => rfl) s [u] rfl
  · refine ⟨a, ns, rfl, hS, fun p hp => ?_, fun _ => rfl⟩
    rcases List.mem_cons.mp hp with rfl | hp
    · exact LamX.TabS.nil (ht _ (mem _ t1))
    · rw [List.mem_singleton.mp hp]
      exact LamX.TabS.nil (ht _ (mem _ t2))
  · obtain ⟨st2, fd2, D2, F2⟩ := ok_law (P := P) (w := w) (base := base) T (tb _ (mem _ t1)) (tb _ (mem _ t2))
    have e2 : fd2 = fd := by
      obtain ⟨oc, od, dV, kV, doc, pm, an, cdv, ct, osl, _, lk, _⟩ := D.F.ex
      obtain ⟨oc2, od2, _, _, _, _, _, _, _, osl2, _, lk2, _⟩ := D2.F.ex
      rw [lk] at lk2
      cases lk2
      rfl
    rw [e2, e] at F2
    exact F2
end Tk
open PySem PySem.W PySem.Calls PyProof.Rows
theorem PySem.Challenge.cw_takeandsplit_k11_whole_ways_and_back_holds : PySem.Challenge.rw_takeandsplit_k11_whole_ways_and_back.Holds := by
  w_on; o_law
  refine HandSHeadRun.head_any (r := OpenLaw.row PySem.Challenge.rw_takeandsplit_k11_whole_ways_and_back) (q := view (OpenLaw.row PySem.Challenge.rw_takeandsplit_k11_whole_ways_and_back).prog [60]) (H := Tk.hk) (ob := Tk.ob) (M := 9000) (loose := Tk.namesA ++ Tk.namesB) (d := HandSHeadRun.topDef (OpenLaw.row PySem.Challenge.rw_takeandsplit_k11_whole_ways_and_back).prog 60) (kwd := []) Tk.ob_eq
    (by kernel_rfl) (fun s => by kernel_rfl) Tk.run (by kernel_rfl) (by kernel_rfl) (by kernel_rfl) (by rfl) (by first | assumption | decide +kernel) (by decide +kernel) ⟨rfl, rfl, rfl, rfl, rfl, by decide +kernel⟩ ?hw ?hc
  case hw => w_witness2
  case hc =>
    refine Tk.walk_ofG (l := PySem.Challenge.rw_takeandsplit_k11_whole_ways_and_back) (n := 63) (k := 10) (x := "_law_script") rfl (by decide) (by kernel_rfl) ⟨rfl, by decide, by decide⟩ ?F
    intro w mg fa h Y G hmg0
    obtain ⟨K, KX, c⟩ := Y
    have hmg : mg ("law" : PySem.Str) = some (.ref fa) := by
      have e : (HandSHeadRun.topDef (OpenLaw.row PySem.Challenge.rw_takeandsplit_k11_whole_ways_and_back).prog 60).name = ("law" : PySem.Str) := by kernel_rfl
      rw [← e]
      exact hmg0
    obtain ⟨fd, cs, h1, h2, h3, h4, h5, h6⟩ := Tk.end_facts (P := (PySem.Challenge.rw_takeandsplit_k11_whole_ways_and_back).prog) (w := w) KX G hmg c
    exact ⟨K, fd, cs, Tk.spLaw K, KX, h1, h2, h3, h4, h5, h6⟩
