import PyProof.Rows.All
import Wide.All
import OpenK.AllK
import Wide.FinOn
import Open.SpecLaws
import KE.OsGo
import HandS.ForSpec
import HandS.Dict
import HandS.WordsDict
import HandS.Comp
import HandS.Iter
import HandS.NoneIn
import HandS.WideBits
import HandS.SortInts
import HandS.SortKw
import HandS.ExcInit
import HandS.ExcSuper
import HandS.ExcField
import HandS.ClsMeth
import HandS.Lambda
import HandS.CallLocal
import KE.KMinKey
import KE.KNestM
import KE.KExcInit
import PySem.Challenge.RW_tenquestions_s01_answers
import HandS.Conv
set_option Elab.async false
set_option linter.all false
set_option maxRecDepth 100000
set_option maxHeartbeats 8000000
set_option exponentiation.threshold 2000
namespace Ten
open PySem PySem.Spec PyProof.Rows L2
/-! The program's defs by their places, and what the top leaves of them (printed by gen_facts.py). -/
def topS (i : Nat) : Stmt := PySem.Challenge.pw_tenquestions_s01_answers.main.body.getD i (.Pass ⟨0, 0, 0, 0⟩)
abbrev s_variable_function : Stmt := topS 4
abbrev s_least_case : Stmt := topS 5
abbrev s_says : Stmt := topS 6
abbrev s_check_below : Stmt := topS 15
abbrev s_check_registers : Stmt := topS 16
abbrev s_check_variable : Stmt := topS 17
abbrev s_check_yes_or_no : Stmt := topS 18
abbrev s_is_order : Stmt := topS 25
abbrev s_fixed_parts : Stmt := topS 26
abbrev s_parts_by_done : Stmt := topS 27
abbrev s_nodes_next : Stmt := topS 28
abbrev s_places_left : Stmt := topS 29
abbrev s_nodes_through : Stmt := topS 30
abbrev s_fewest_nodes : Stmt := topS 31
abbrev s_best_next : Stmt := topS 32
abbrev s_best_order : Stmt := topS 33
abbrev s_with_length : Stmt := topS 37
abbrev s_call_const : Stmt := topS 38
abbrev s_call_var : Stmt := topS 39
abbrev s_call_not : Stmt := topS 40
abbrev s_call_two : Stmt := topS 41
abbrev s_call_choose : Stmt := topS 42
abbrev s_call_fix : Stmt := topS 43
abbrev s_both_fixed : Stmt := topS 44
abbrev s_call_some : Stmt := topS 45
abbrev s_call_all : Stmt := topS 46
abbrev s_call_put : Stmt := topS 47
abbrev s_call_value : Stmt := topS 48
abbrev s_call_count : Stmt := topS 49
abbrev s_call_first : Stmt := topS 50
abbrev s_call_matters : Stmt := topS 51
abbrev s_call_diagram : Stmt := topS 52
abbrev s_call_best : Stmt := topS 53
abbrev s_call_within : Stmt := topS 54
abbrev s_answer_of : Stmt := topS 56
abbrev s_answers : Stmt := topS 64
abbrev s_Cases_init : Stmt := inClass (topS 7) 0
abbrev s_Cases_opposite : Stmt := inClass (topS 7) 1
abbrev s_Cases_constant : Stmt := inClass (topS 7) 2
abbrev s_Cases_where : Stmt := inClass (topS 7) 3
abbrev s_Cases_combined : Stmt := inClass (topS 7) 4
abbrev s_Cases_chosen : Stmt := inClass (topS 7) 5
abbrev s_Cases_fixed : Stmt := inClass (topS 7) 6
abbrev s_Cases_composed : Stmt := inClass (topS 7) 7
abbrev s_Cases_matters_to : Stmt := inClass (topS 7) 8
abbrev s_Cases_mattering : Stmt := inClass (topS 7) 9
abbrev s_Cases_how_many : Stmt := inClass (topS 7) 10
abbrev s_Diagram_init : Stmt := inClass (topS 23) 0
abbrev s_Diagram_place_of : Stmt := inClass (topS 23) 1
abbrev s_Diagram_node_numbers : Stmt := inClass (topS 23) 2
abbrev s_CallReader_init : Stmt := inClass (topS 60) 0
abbrev s_CallReader_has_more : Stmt := inClass (topS 60) 1
abbrev s_CallReader_taken : Stmt := inClass (topS 60) 2
abbrev s_CallReader_taken_call : Stmt := inClass (topS 60) 3
abbrev s_State_init : Stmt := inClass (topS 62) 0
abbrev s_State_keep : Stmt := inClass (topS 62) 1
abbrev s_Refusal_init : Stmt := inClass (topS 9) 0
abbrev s_OutOfRange_init : Stmt := inClass (topS 10) 0
abbrev s_NoCase_init : Stmt := inClass (topS 11) 0
abbrev s_TooManyMatter_init : Stmt := inClass (topS 12) 0
/-- the addresses at which the top has laid the program's parts -/
structure Ad where
  f_variable_function : Addr
  d_variable_function : FuncData
  f_least_case : Addr
  d_least_case : FuncData
  f_says : Addr
  d_says : FuncData
  f_check_below : Addr
  d_check_below : FuncData
  f_check_registers : Addr
  d_check_registers : FuncData
  f_check_variable : Addr
  d_check_variable : FuncData
  f_check_yes_or_no : Addr
  d_check_yes_or_no : FuncData
  f_is_order : Addr
  d_is_order : FuncData
  f_fixed_parts : Addr
  d_fixed_parts : FuncData
  f_parts_by_done : Addr
  d_parts_by_done : FuncData
  f_nodes_next : Addr
  d_nodes_next : FuncData
  f_places_left : Addr
  d_places_left : FuncData
  f_nodes_through : Addr
  d_nodes_through : FuncData
  f_fewest_nodes : Addr
  d_fewest_nodes : FuncData
  f_best_next : Addr
  d_best_next : FuncData
  f_best_order : Addr
  d_best_order : FuncData
  f_with_length : Addr
  d_with_length : FuncData
  f_call_const : Addr
  d_call_const : FuncData
  f_call_var : Addr
  d_call_var : FuncData
  f_call_not : Addr
  d_call_not : FuncData
  f_call_two : Addr
  d_call_two : FuncData
  f_call_choose : Addr
  d_call_choose : FuncData
  f_call_fix : Addr
  d_call_fix : FuncData
  f_both_fixed : Addr
  d_both_fixed : FuncData
  f_call_some : Addr
  d_call_some : FuncData
  f_call_all : Addr
  d_call_all : FuncData
  f_call_put : Addr
  d_call_put : FuncData
  f_call_value : Addr
  d_call_value : FuncData
  f_call_count : Addr
  d_call_count : FuncData
  f_call_first : Addr
  d_call_first : FuncData
  f_call_matters : Addr
  d_call_matters : FuncData
  f_call_diagram : Addr
  d_call_diagram : FuncData
  f_call_best : Addr
  d_call_best : FuncData
  f_call_within : Addr
  d_call_within : FuncData
  f_answer_of : Addr
  d_answer_of : FuncData
  f_answers : Addr
  d_answers : FuncData
  f_Cases_init : Addr
  d_Cases_init : FuncData
  f_Cases_opposite : Addr
  d_Cases_opposite : FuncData
  f_Cases_constant : Addr
  d_Cases_constant : FuncData
  f_Cases_where : Addr
  d_Cases_where : FuncData
  f_Cases_combined : Addr
  d_Cases_combined : FuncData
  f_Cases_chosen : Addr
  d_Cases_chosen : FuncData
  f_Cases_fixed : Addr
  d_Cases_fixed : FuncData
  f_Cases_composed : Addr
  d_Cases_composed : FuncData
  f_Cases_matters_to : Addr
  d_Cases_matters_to : FuncData
  f_Cases_mattering : Addr
  d_Cases_mattering : FuncData
  f_Cases_how_many : Addr
  d_Cases_how_many : FuncData
  f_Diagram_init : Addr
  d_Diagram_init : FuncData
  f_Diagram_place_of : Addr
  d_Diagram_place_of : FuncData
  f_Diagram_node_numbers : Addr
  d_Diagram_node_numbers : FuncData
  f_CallReader_init : Addr
  d_CallReader_init : FuncData
  f_CallReader_has_more : Addr
  d_CallReader_has_more : FuncData
  f_CallReader_taken : Addr
  d_CallReader_taken : FuncData
  f_CallReader_taken_call : Addr
  d_CallReader_taken_call : FuncData
  f_State_init : Addr
  d_State_init : FuncData
  f_State_keep : Addr
  d_State_keep : FuncData
  f_Refusal_init : Addr
  d_Refusal_init : FuncData
  f_OutOfRange_init : Addr
  d_OutOfRange_init : FuncData
  f_NoCase_init : Addr
  d_NoCase_init : FuncData
  f_TooManyMatter_init : Addr
  d_TooManyMatter_init : FuncData
  c_Cases : Addr
  c_Refusal : Addr
  c_OutOfRange : Addr
  c_NoCase : Addr
  c_TooManyMatter : Addr
  c_Diagram : Addr
  c_CallReader : Addr
  c_State : Addr
  t_plain : Addr
  t_calls : Addr
  k_best : Addr
  p_best : Addr
/-- a def of the top -/
structure TDef (K : PySem.W.Frag) (mg : Str → Option Value) (x : Str) (st : Stmt) (ps : List Str) (f : Addr) (fd : FuncData) : Prop where
  g : mg x = some (.ref f)
  F : Fun K x x st f fd
  b : Binds K fd ps []
/-- a method -/
structure TMeth (K : PySem.W.Frag) (C : Addr) (m q : Str) (st : Stmt) (ps : List Str) (f : Addr) (fd : FuncData) : Prop where
  M : Meth K C m f
  F : Fun K m q st f fd
  b : Binds K fd ps []
/-- an error's class over Refusal -/
structure TExc (K : PySem.W.Frag) (mg : Str → Option Value) (x : Str) (C fI R : Addr) : Prop where
  g : mg x = some (.ref C)
  ini : PySem.W.excInitIn K C [.type "Exception", .type "BaseException", .type "object"] "Exception.__new__" = true
  over : PySem.W.excOver K C [.type "Exception", .type "BaseException", .type "object"] = true
  hd : PySem.W.hasDictIn K C = true
  sa : PySem.W.findIn K (.ref C) "__setattr__" = some (some (.builtin "object.__setattr__"))
  ga : PySem.W.findIn K (.ref C) "__getattribute__" = some (some (.builtin "BaseException.__getattribute__"))
  gg : PySem.W.findIn K (.ref C) "__getattr__" = some none
  no : PySem.W.findIn K (.ref C) "number" = some none
  iC : PySem.W.findIn K (.ref C) "__init__" = some (some (.ref fI))
  tI : PySem.W.typeIn K (.ref fI) = some (.type "function")
  kC : PySem.W.keepIn K (.ref C) = true
  exC : PySem.W.subIn K (.ref C) (.type "BaseException") = some true
  tyC : PySem.W.typeIn K (.ref C) = some (.type "type")
  te : PySem.W.exmOne K (.ref C) (.ref R) = some true
theorem exm_at {K : PySem.W.Frag} {S R : Addr} (h1 : PySem.W.subIn K (.ref R) (.type "BaseException") = some true) (h2 : PySem.W.isClsIn K R = true) (h3 : PySem.W.typeIn K (.ref R) = some (.type "type")) (h4 : PySem.W.subIn K (.ref S) (.ref R) = some true) :
    PySem.W.exmOne K (.ref S) (.ref R) = some true := by
  have e1 : (PySem.W.subIn K (.ref R) (.type "BaseException") == some true) = true := by rw [h1] <;> rfl
  have e2 : ((PySem.W.clsIn K R).isSome && PySem.W.typeIn K (.ref R) == some (.type "type")) = true := by
    have h2' : (PySem.W.clsIn K R).isSome = true := h2
    rw [h2', h3] <;> rfl
  show (if (PySem.W.subIn K (.ref R) (.type "BaseException") == some true) = true then (if ((PySem.W.clsIn K R).isSome && PySem.W.typeIn K (.ref R) == some (.type "type")) = true then PySem.W.subIn K (.ref S) (.ref R) else none) else none) = some true
  rw [if_pos e1, if_pos e2]
  exact h4
theorem tab_at {K : PySem.W.Frag} {x : Str} {f c P : Addr} {oc ocB : Value} {od odB : Option Addr} {fd : FuncData} {sl slB : Array (Option Value)} {vs : Array Value} (h1 : PySem.W.nsIn K mainGlobals x = some (some (.ref f))) (h2 : K.lookup f = some ⟨oc, od, .func fd, sl⟩)
    (h3 : fd.code = .ref c) (h4 : K.lookup c = some ⟨ocB, odB, .fields vs, slB⟩) (h5 : vs[11]? = some (.ref P)) : PySem.W.tabIn K x = some (c, P) := by
  unfold PySem.W.tabIn
  rw [h1]
  simp only [h2, h3, h4, h5]
/-- what the top has written -/
structure Txt (K : PySem.W.Frag) (mg : Str → Option Value) (a : Ad) : Prop where
  variable_function : TDef K mg "variable_function" s_variable_function ["variable"] a.f_variable_function a.d_variable_function
  least_case : TDef K mg "least_case" s_least_case ["function", "start"] a.f_least_case a.d_least_case
  says : TDef K mg "says" s_says ["function", "case"] a.f_says a.d_says
  check_below : TDef K mg "check_below" s_check_below ["number", "limit"] a.f_check_below a.d_check_below
  check_registers : TDef K mg "check_registers" s_check_registers ["numbers"] a.f_check_registers a.d_check_registers
  check_variable : TDef K mg "check_variable" s_check_variable ["number"] a.f_check_variable a.d_check_variable
  check_yes_or_no : TDef K mg "check_yes_or_no" s_check_yes_or_no ["number"] a.f_check_yes_or_no a.d_check_yes_or_no
  is_order : TDef K mg "is_order" s_is_order ["numbers"] a.f_is_order a.d_is_order
  fixed_parts : TDef K mg "fixed_parts" s_fixed_parts ["cases", "parts", "variable"] a.f_fixed_parts a.d_fixed_parts
  parts_by_done : TDef K mg "parts_by_done" s_parts_by_done ["cases", "function", "variables"] a.f_parts_by_done a.d_parts_by_done
  nodes_next : TDef K mg "nodes_next" s_nodes_next ["cases", "parts", "variable"] a.f_nodes_next a.d_nodes_next
  places_left : TDef K mg "places_left" s_places_left ["done", "length"] a.f_places_left a.d_places_left
  nodes_through : TDef K mg "nodes_through" s_nodes_through ["next_nodes", "fewest", "done", "place"] a.f_nodes_through a.d_nodes_through
  fewest_nodes : TDef K mg "fewest_nodes" s_fewest_nodes ["next_nodes", "length"] a.f_fewest_nodes a.d_fewest_nodes
  best_next : TDef K mg "best_next" s_best_next ["next_nodes", "fewest", "done", "length"] a.f_best_next a.d_best_next
  best_order : TDef K mg "best_order" s_best_order ["cases", "function", "variables"] a.f_best_order a.d_best_order
  with_length : TDef K mg "with_length" s_with_length ["numbers"] a.f_with_length a.d_with_length
  call_const : TDef K mg "call_const" s_call_const ["state", "given"] a.f_call_const a.d_call_const
  call_var : TDef K mg "call_var" s_call_var ["state", "given"] a.f_call_var a.d_call_var
  call_not : TDef K mg "call_not" s_call_not ["state", "given"] a.f_call_not a.d_call_not
  call_two : TDef K mg "call_two" s_call_two ["state", "given"] a.f_call_two a.d_call_two
  call_choose : TDef K mg "call_choose" s_call_choose ["state", "given"] a.f_call_choose a.d_call_choose
  call_fix : TDef K mg "call_fix" s_call_fix ["state", "given"] a.f_call_fix a.d_call_fix
  both_fixed : TDef K mg "both_fixed" s_both_fixed ["state", "a", "v"] a.f_both_fixed a.d_both_fixed
  call_some : TDef K mg "call_some" s_call_some ["state", "given"] a.f_call_some a.d_call_some
  call_all : TDef K mg "call_all" s_call_all ["state", "given"] a.f_call_all a.d_call_all
  call_put : TDef K mg "call_put" s_call_put ["state", "given"] a.f_call_put a.d_call_put
  call_value : TDef K mg "call_value" s_call_value ["state", "given"] a.f_call_value a.d_call_value
  call_count : TDef K mg "call_count" s_call_count ["state", "given"] a.f_call_count a.d_call_count
  call_first : TDef K mg "call_first" s_call_first ["state", "given"] a.f_call_first a.d_call_first
  call_matters : TDef K mg "call_matters" s_call_matters ["state", "given"] a.f_call_matters a.d_call_matters
  call_diagram : TDef K mg "call_diagram" s_call_diagram ["state", "given"] a.f_call_diagram a.d_call_diagram
  call_best : TDef K mg "call_best" s_call_best ["state", "given"] a.f_call_best a.d_call_best
  call_within : TDef K mg "call_within" s_call_within ["state", "given"] a.f_call_within a.d_call_within
  answer_of : TDef K mg "answer_of" s_answer_of ["state", "number", "given"] a.f_answer_of a.d_answer_of
  answers : TDef K mg "answers" s_answers ["calls"] a.f_answers a.d_answers
  Cases_init : Fun K "__init__" "Cases.__init__" s_Cases_init a.f_Cases_init a.d_Cases_init
  Cases_init_b : Binds K a.d_Cases_init ["self"] []
  Cases_opposite : TMeth K a.c_Cases "opposite" "Cases.opposite" s_Cases_opposite ["self", "function"] a.f_Cases_opposite a.d_Cases_opposite
  Cases_constant : TMeth K a.c_Cases "constant" "Cases.constant" s_Cases_constant ["self", "z"] a.f_Cases_constant a.d_Cases_constant
  Cases_where : TMeth K a.c_Cases "where" "Cases.where" s_Cases_where ["self", "function", "z"] a.f_Cases_where a.d_Cases_where
  Cases_combined : TMeth K a.c_Cases "combined" "Cases.combined" s_Cases_combined ["self", "op", "left", "right"] a.f_Cases_combined a.d_Cases_combined
  Cases_chosen : TMeth K a.c_Cases "chosen" "Cases.chosen" s_Cases_chosen ["self", "condition", "then", "otherwise"] a.f_Cases_chosen a.d_Cases_chosen
  Cases_fixed : TMeth K a.c_Cases "fixed" "Cases.fixed" s_Cases_fixed ["self", "function", "variable", "z"] a.f_Cases_fixed a.d_Cases_fixed
  Cases_composed : TMeth K a.c_Cases "composed" "Cases.composed" s_Cases_composed ["self", "function", "variable", "inner"] a.f_Cases_composed a.d_Cases_composed
  Cases_matters_to : TMeth K a.c_Cases "matters_to" "Cases.matters_to" s_Cases_matters_to ["self", "variable", "function"] a.f_Cases_matters_to a.d_Cases_matters_to
  Cases_mattering : TMeth K a.c_Cases "mattering" "Cases.mattering" s_Cases_mattering ["self", "function"] a.f_Cases_mattering a.d_Cases_mattering
  Cases_how_many : TMeth K a.c_Cases "how_many" "Cases.how_many" s_Cases_how_many ["self", "function"] a.f_Cases_how_many a.d_Cases_how_many
  Diagram_init : Fun K "__init__" "Diagram.__init__" s_Diagram_init a.f_Diagram_init a.d_Diagram_init
  Diagram_init_b : Binds K a.d_Diagram_init ["self", "cases", "order", "function"] []
  Diagram_place_of : TMeth K a.c_Diagram "place_of" "Diagram.place_of" s_Diagram_place_of ["self", "part", "start"] a.f_Diagram_place_of a.d_Diagram_place_of
  Diagram_node_numbers : TMeth K a.c_Diagram "node_numbers" "Diagram.node_numbers" s_Diagram_node_numbers ["self"] a.f_Diagram_node_numbers a.d_Diagram_node_numbers
  CallReader_init : Fun K "__init__" "CallReader.__init__" s_CallReader_init a.f_CallReader_init a.d_CallReader_init
  CallReader_init_b : Binds K a.d_CallReader_init ["self", "numbers"] []
  CallReader_has_more : TMeth K a.c_CallReader "has_more" "CallReader.has_more" s_CallReader_has_more ["self"] a.f_CallReader_has_more a.d_CallReader_has_more
  CallReader_taken : TMeth K a.c_CallReader "taken" "CallReader.taken" s_CallReader_taken ["self", "length"] a.f_CallReader_taken a.d_CallReader_taken
  CallReader_taken_call : TMeth K a.c_CallReader "taken_call" "CallReader.taken_call" s_CallReader_taken_call ["self"] a.f_CallReader_taken_call a.d_CallReader_taken_call
  State_init : Fun K "__init__" "State.__init__" s_State_init a.f_State_init a.d_State_init
  State_init_b : Binds K a.d_State_init ["self"] []
  State_keep : TMeth K a.c_State "keep" "State.keep" s_State_keep ["self", "place", "function"] a.f_State_keep a.d_State_keep
  Refusal_init : Fun K "__init__" "Refusal.__init__" s_Refusal_init a.f_Refusal_init a.d_Refusal_init
  Refusal_init_b : Binds K a.d_Refusal_init ["self", "number"] []
  OutOfRange_init : Fun K "__init__" "OutOfRange.__init__" s_OutOfRange_init a.f_OutOfRange_init a.d_OutOfRange_init
  OutOfRange_init_b : Binds K a.d_OutOfRange_init ["self"] []
  NoCase_init : Fun K "__init__" "NoCase.__init__" s_NoCase_init a.f_NoCase_init a.d_NoCase_init
  NoCase_init_b : Binds K a.d_NoCase_init ["self"] []
  TooManyMatter_init : Fun K "__init__" "TooManyMatter.__init__" s_TooManyMatter_init a.f_TooManyMatter_init a.d_TooManyMatter_init
  TooManyMatter_init_b : Binds K a.d_TooManyMatter_init ["self"] []
  cl_Cases : Cls K a.c_Cases
  g_Cases : mg "Cases" = some (.ref a.c_Cases)
  mk_Cases : Mk K a.c_Cases a.f_Cases_init
  no_Cases_everywhere : NoAttr K a.c_Cases "everywhere"
  no_Cases_yes : NoAttr K a.c_Cases "yes"
  no_Cases_no : NoAttr K a.c_Cases "no"
  cl_Diagram : Cls K a.c_Diagram
  g_Diagram : mg "Diagram" = some (.ref a.c_Diagram)
  mk_Diagram : Mk K a.c_Diagram a.f_Diagram_init
  no_Diagram_cases : NoAttr K a.c_Diagram "cases"
  no_Diagram_order : NoAttr K a.c_Diagram "order"
  no_Diagram_nodes : NoAttr K a.c_Diagram "nodes"
  no_Diagram_node_places : NoAttr K a.c_Diagram "node_places"
  no_Diagram_begins : NoAttr K a.c_Diagram "begins"
  cl_CallReader : Cls K a.c_CallReader
  g_CallReader : mg "CallReader" = some (.ref a.c_CallReader)
  mk_CallReader : Mk K a.c_CallReader a.f_CallReader_init
  no_CallReader_numbers : NoAttr K a.c_CallReader "numbers"
  no_CallReader_at : NoAttr K a.c_CallReader "at"
  cl_State : Cls K a.c_State
  g_State : mg "State" = some (.ref a.c_State)
  mk_State : Mk K a.c_State a.f_State_init
  no_State_cases : NoAttr K a.c_State "cases"
  no_State_functions : NoAttr K a.c_State "functions"
  x_Refusal : TExc K mg "Refusal" a.c_Refusal a.f_Refusal_init a.c_Refusal
  x_OutOfRange : TExc K mg "OutOfRange" a.c_OutOfRange a.f_OutOfRange_init a.c_Refusal
  x_NoCase : TExc K mg "NoCase" a.c_NoCase a.f_NoCase_init a.c_Refusal
  x_TooManyMatter : TExc K mg "TooManyMatter" a.c_TooManyMatter a.f_TooManyMatter_init a.c_Refusal
  rdR : PySem.W.readsIn K a.c_Refusal (.type "type") = true
  gaR : PySem.W.specialIn K (.ref a.c_Refusal) "__getattribute__" = some (some (.builtin "type.__getattribute__"))
  fcR : PySem.W.findCls K (.ref a.c_Refusal) (.type "type") "__init__" = some (.val (.ref a.f_Refusal_init))
  i_VARIABLES : ∃ t, mg "VARIABLES" = some (.int 10 t)
  i_CASES : ∃ t, mg "CASES" = some (.int 1024 t)
  i_NO_EVERYWHERE : ∃ t, mg "NO_EVERYWHERE" = some (.int 0 t)
  i_REGISTERS : ∃ t, mg "REGISTERS" = some (.int 16 t)
  i_NO : ∃ t, mg "NO" = some (.int 0 t)
  i_YES : ∃ t, mg "YES" = some (.int 1 t)
  i_FIRST_NODE : ∃ t, mg "FIRST_NODE" = some (.int 2 t)
  i_OPS : ∃ t, mg "OPS" = some (.int 16 t)
  i_MOST_MATTERING : ∃ t, mg "MOST_MATTERING" = some (.int 5 t)
  i_DIAGRAM : ∃ t, mg "DIAGRAM" = some (.int 13 t)
  b_len : mg "len" = none
  b_range : mg "range" = none
  b_list : mg "list" = none
  b_sorted : mg "sorted" = none
  b_min : mg "min" = none
  gP : mg "PLAIN_NUMBERS" = some (.ref a.t_plain)
  gC : mg "CALLS" = some (.ref a.t_calls)
  sP : ∀ H, SqT K H a.t_plain (([2, 2, 2, 4, 4, 4, 3, 3, 4, 2, 1, 2, 1, 1, 1, 2] : List Int).map V.int)
  sC : ∀ H, SqT K H a.t_calls [.ref a.f_call_const, .ref a.f_call_var, .ref a.f_call_not, .ref a.f_call_two, .ref a.f_call_choose, .ref a.f_call_fix, .ref a.f_call_some, .ref a.f_call_all, .ref a.f_call_put, .ref a.f_call_value, .ref a.f_call_count, .ref a.f_call_first, .ref a.f_call_matters, .ref a.f_call_diagram, .ref a.f_call_best, .ref a.f_call_within]
  tb : PySem.W.tabIn K "best_next" = some (a.k_best, a.p_best)
  hb : PySem.W.codeHdIn K a.k_best a.p_best = true
  nb : K.lookup a.p_best = none
theorem txt_mk {K : PySem.W.Frag} {h : Heap} {mg : Str → Option Value} (X : K.In h) (G : h.Ns mainGlobals mg)
    {f1 : Addr} {od1 an1 : Option Addr} {sl1 : Array (Option Value)} {oc1 kV1 dc1 pm1 cd1 ct1 : Value}
    {f2 : Addr} {od2 an2 : Option Addr} {sl2 : Array (Option Value)} {oc2 kV2 dc2 pm2 cd2 ct2 : Value}
    {f3 : Addr} {od3 an3 : Option Addr} {sl3 : Array (Option Value)} {oc3 kV3 dc3 pm3 cd3 ct3 : Value}
    {f4 : Addr} {od4 an4 : Option Addr} {sl4 : Array (Option Value)} {oc4 kV4 dc4 pm4 cd4 ct4 : Value}
    {f5 : Addr} {od5 an5 : Option Addr} {sl5 : Array (Option Value)} {oc5 kV5 dc5 pm5 cd5 ct5 : Value}
    {f6 : Addr} {od6 an6 : Option Addr} {sl6 : Array (Option Value)} {oc6 kV6 dc6 pm6 cd6 ct6 : Value}
    {f7 : Addr} {od7 an7 : Option Addr} {sl7 : Array (Option Value)} {oc7 kV7 dc7 pm7 cd7 ct7 : Value}
    {f8 : Addr} {od8 an8 : Option Addr} {sl8 : Array (Option Value)} {oc8 kV8 dc8 pm8 cd8 ct8 : Value}
    {f9 : Addr} {od9 an9 : Option Addr} {sl9 : Array (Option Value)} {oc9 kV9 dc9 pm9 cd9 ct9 : Value}
    {f10 : Addr} {od10 an10 : Option Addr} {sl10 : Array (Option Value)} {oc10 kV10 dc10 pm10 cd10 ct10 : Value}
    {f11 : Addr} {od11 an11 : Option Addr} {sl11 : Array (Option Value)} {oc11 kV11 dc11 pm11 cd11 ct11 : Value}
    {f12 : Addr} {od12 an12 : Option Addr} {sl12 : Array (Option Value)} {oc12 kV12 dc12 pm12 cd12 ct12 : Value}
    {f13 : Addr} {od13 an13 : Option Addr} {sl13 : Array (Option Value)} {oc13 kV13 dc13 pm13 cd13 ct13 : Value}
    {f14 : Addr} {od14 an14 : Option Addr} {sl14 : Array (Option Value)} {oc14 kV14 dc14 pm14 cd14 ct14 : Value}
    {f15 : Addr} {od15 an15 : Option Addr} {sl15 : Array (Option Value)} {oc15 kV15 dc15 pm15 cd15 ct15 : Value}
    {f16 : Addr} {od16 an16 : Option Addr} {sl16 : Array (Option Value)} {oc16 kV16 dc16 pm16 cd16 ct16 : Value}
    {f17 : Addr} {od17 an17 : Option Addr} {sl17 : Array (Option Value)} {oc17 kV17 dc17 pm17 cd17 ct17 : Value}
    {f18 : Addr} {od18 an18 : Option Addr} {sl18 : Array (Option Value)} {oc18 kV18 dc18 pm18 cd18 ct18 : Value}
    {f19 : Addr} {od19 an19 : Option Addr} {sl19 : Array (Option Value)} {oc19 kV19 dc19 pm19 cd19 ct19 : Value}
    {f20 : Addr} {od20 an20 : Option Addr} {sl20 : Array (Option Value)} {oc20 kV20 dc20 pm20 cd20 ct20 : Value}
    {f21 : Addr} {od21 an21 : Option Addr} {sl21 : Array (Option Value)} {oc21 kV21 dc21 pm21 cd21 ct21 : Value}
    {f22 : Addr} {od22 an22 : Option Addr} {sl22 : Array (Option Value)} {oc22 kV22 dc22 pm22 cd22 ct22 : Value}
    {f23 : Addr} {od23 an23 : Option Addr} {sl23 : Array (Option Value)} {oc23 kV23 dc23 pm23 cd23 ct23 : Value}
    {f24 : Addr} {od24 an24 : Option Addr} {sl24 : Array (Option Value)} {oc24 kV24 dc24 pm24 cd24 ct24 : Value}
    {f25 : Addr} {od25 an25 : Option Addr} {sl25 : Array (Option Value)} {oc25 kV25 dc25 pm25 cd25 ct25 : Value}
    {f26 : Addr} {od26 an26 : Option Addr} {sl26 : Array (Option Value)} {oc26 kV26 dc26 pm26 cd26 ct26 : Value}
    {f27 : Addr} {od27 an27 : Option Addr} {sl27 : Array (Option Value)} {oc27 kV27 dc27 pm27 cd27 ct27 : Value}
    {f28 : Addr} {od28 an28 : Option Addr} {sl28 : Array (Option Value)} {oc28 kV28 dc28 pm28 cd28 ct28 : Value}
    {f29 : Addr} {od29 an29 : Option Addr} {sl29 : Array (Option Value)} {oc29 kV29 dc29 pm29 cd29 ct29 : Value}
    {f30 : Addr} {od30 an30 : Option Addr} {sl30 : Array (Option Value)} {oc30 kV30 dc30 pm30 cd30 ct30 : Value}
    {f31 : Addr} {od31 an31 : Option Addr} {sl31 : Array (Option Value)} {oc31 kV31 dc31 pm31 cd31 ct31 : Value}
    {f32 : Addr} {od32 an32 : Option Addr} {sl32 : Array (Option Value)} {oc32 kV32 dc32 pm32 cd32 ct32 : Value}
    {f33 : Addr} {od33 an33 : Option Addr} {sl33 : Array (Option Value)} {oc33 kV33 dc33 pm33 cd33 ct33 : Value}
    {f34 : Addr} {od34 an34 : Option Addr} {sl34 : Array (Option Value)} {oc34 kV34 dc34 pm34 cd34 ct34 : Value}
    {f35 : Addr} {od35 an35 : Option Addr} {sl35 : Array (Option Value)} {oc35 kV35 dc35 pm35 cd35 ct35 : Value}
    {f36 : Addr} {od36 an36 : Option Addr} {sl36 : Array (Option Value)} {oc36 kV36 dc36 pm36 cd36 ct36 : Value}
    {f37 : Addr} {od37 an37 : Option Addr} {sl37 : Array (Option Value)} {oc37 kV37 dc37 pm37 cd37 ct37 : Value}
    {f38 : Addr} {od38 an38 : Option Addr} {sl38 : Array (Option Value)} {oc38 kV38 dc38 pm38 cd38 ct38 : Value}
    {f39 : Addr} {od39 an39 : Option Addr} {sl39 : Array (Option Value)} {oc39 kV39 dc39 pm39 cd39 ct39 : Value}
    {f40 : Addr} {od40 an40 : Option Addr} {sl40 : Array (Option Value)} {oc40 kV40 dc40 pm40 cd40 ct40 : Value}
    {f41 : Addr} {od41 an41 : Option Addr} {sl41 : Array (Option Value)} {oc41 kV41 dc41 pm41 cd41 ct41 : Value}
    {f42 : Addr} {od42 an42 : Option Addr} {sl42 : Array (Option Value)} {oc42 kV42 dc42 pm42 cd42 ct42 : Value}
    {f43 : Addr} {od43 an43 : Option Addr} {sl43 : Array (Option Value)} {oc43 kV43 dc43 pm43 cd43 ct43 : Value}
    {f44 : Addr} {od44 an44 : Option Addr} {sl44 : Array (Option Value)} {oc44 kV44 dc44 pm44 cd44 ct44 : Value}
    {f45 : Addr} {od45 an45 : Option Addr} {sl45 : Array (Option Value)} {oc45 kV45 dc45 pm45 cd45 ct45 : Value}
    {f46 : Addr} {od46 an46 : Option Addr} {sl46 : Array (Option Value)} {oc46 kV46 dc46 pm46 cd46 ct46 : Value}
    {f47 : Addr} {od47 an47 : Option Addr} {sl47 : Array (Option Value)} {oc47 kV47 dc47 pm47 cd47 ct47 : Value}
    {f48 : Addr} {od48 an48 : Option Addr} {sl48 : Array (Option Value)} {oc48 kV48 dc48 pm48 cd48 ct48 : Value}
    {f49 : Addr} {od49 an49 : Option Addr} {sl49 : Array (Option Value)} {oc49 kV49 dc49 pm49 cd49 ct49 : Value}
    {f50 : Addr} {od50 an50 : Option Addr} {sl50 : Array (Option Value)} {oc50 kV50 dc50 pm50 cd50 ct50 : Value}
    {f51 : Addr} {od51 an51 : Option Addr} {sl51 : Array (Option Value)} {oc51 kV51 dc51 pm51 cd51 ct51 : Value}
    {f52 : Addr} {od52 an52 : Option Addr} {sl52 : Array (Option Value)} {oc52 kV52 dc52 pm52 cd52 ct52 : Value}
    {f53 : Addr} {od53 an53 : Option Addr} {sl53 : Array (Option Value)} {oc53 kV53 dc53 pm53 cd53 ct53 : Value}
    {f54 : Addr} {od54 an54 : Option Addr} {sl54 : Array (Option Value)} {oc54 kV54 dc54 pm54 cd54 ct54 : Value}
    {f55 : Addr} {od55 an55 : Option Addr} {sl55 : Array (Option Value)} {oc55 kV55 dc55 pm55 cd55 ct55 : Value}
    {f56 : Addr} {od56 an56 : Option Addr} {sl56 : Array (Option Value)} {oc56 kV56 dc56 pm56 cd56 ct56 : Value}
    {f57 : Addr} {od57 an57 : Option Addr} {sl57 : Array (Option Value)} {oc57 kV57 dc57 pm57 cd57 ct57 : Value}
    {f58 : Addr} {od58 an58 : Option Addr} {sl58 : Array (Option Value)} {oc58 kV58 dc58 pm58 cd58 ct58 : Value}
    {f59 : Addr} {od59 an59 : Option Addr} {sl59 : Array (Option Value)} {oc59 kV59 dc59 pm59 cd59 ct59 : Value}
    {f60 : Addr} {od60 an60 : Option Addr} {sl60 : Array (Option Value)} {oc60 kV60 dc60 pm60 cd60 ct60 : Value}
    {cCases : Addr}
    {cRefusal : Addr}
    {cOutOfRange : Addr}
    {cNoCase : Addr}
    {cTooManyMatter : Addr}
    {cDiagram : Addr}
    {cCallReader : Addr}
    {cState : Addr}
    {tVARIABLES : Tok}
    {tCASES : Tok}
    {tNO_EVERYWHERE : Tok}
    {tREGISTERS : Tok}
    {tNO : Tok}
    {tYES : Tok}
    {tFIRST_NODE : Tok}
    {tOPS : Tok}
    {tMOST_MATTERING : Tok}
    {tDIAGRAM : Tok}
    {tP tC : Addr} {oP oC : Option Addr} {nP nC : Nat} {slP slC : Array (Option Value)} {u0 u1 u2 u3 u4 u5 u6 u7 u8 u9 u10 u11 u12 u13 u14 u15 : Tok}
    {kB pB : Addr} {ocB : Value} {odB : Option Addr} {vsB : Array Value} {slB : Array (Option Value)}
    (gCases : PySem.W.nsIn K mainGlobals "Cases" = some (some (.ref cCases)))
    (gRefusal : PySem.W.nsIn K mainGlobals "Refusal" = some (some (.ref cRefusal)))
    (gOutOfRange : PySem.W.nsIn K mainGlobals "OutOfRange" = some (some (.ref cOutOfRange)))
    (gNoCase : PySem.W.nsIn K mainGlobals "NoCase" = some (some (.ref cNoCase)))
    (gTooManyMatter : PySem.W.nsIn K mainGlobals "TooManyMatter" = some (some (.ref cTooManyMatter)))
    (gDiagram : PySem.W.nsIn K mainGlobals "Diagram" = some (some (.ref cDiagram)))
    (gCallReader : PySem.W.nsIn K mainGlobals "CallReader" = some (some (.ref cCallReader)))
    (gState : PySem.W.nsIn K mainGlobals "State" = some (some (.ref cState)))
    (a1 : PySem.W.nsIn K mainGlobals "variable_function" = some (some (.ref f1)))
    (l1 : K.lookup f1 = some ⟨oc1, od1, .func (PySem.W.fnOf "variable_function" "variable_function" (defArgs s_variable_function) (defBody s_variable_function) (defScope s_variable_function) .none kV1 dc1 pm1 an1 cd1 ct1), sl1⟩)
    (c1 : PySem.W.codeIn K cd1 "variable_function" = true)
    (k1 : PySem.W.keepIn K (.ref f1) = true)
    (a2 : PySem.W.nsIn K mainGlobals "least_case" = some (some (.ref f2)))
    (l2 : K.lookup f2 = some ⟨oc2, od2, .func (PySem.W.fnOf "least_case" "least_case" (defArgs s_least_case) (defBody s_least_case) (defScope s_least_case) .none kV2 dc2 pm2 an2 cd2 ct2), sl2⟩)
    (c2 : PySem.W.codeIn K cd2 "least_case" = true)
    (k2 : PySem.W.keepIn K (.ref f2) = true)
    (a3 : PySem.W.nsIn K mainGlobals "says" = some (some (.ref f3)))
    (l3 : K.lookup f3 = some ⟨oc3, od3, .func (PySem.W.fnOf "says" "says" (defArgs s_says) (defBody s_says) (defScope s_says) .none kV3 dc3 pm3 an3 cd3 ct3), sl3⟩)
    (c3 : PySem.W.codeIn K cd3 "says" = true)
    (k3 : PySem.W.keepIn K (.ref f3) = true)
    (a4 : PySem.W.nsIn K mainGlobals "check_below" = some (some (.ref f4)))
    (l4 : K.lookup f4 = some ⟨oc4, od4, .func (PySem.W.fnOf "check_below" "check_below" (defArgs s_check_below) (defBody s_check_below) (defScope s_check_below) .none kV4 dc4 pm4 an4 cd4 ct4), sl4⟩)
    (c4 : PySem.W.codeIn K cd4 "check_below" = true)
    (k4 : PySem.W.keepIn K (.ref f4) = true)
    (a5 : PySem.W.nsIn K mainGlobals "check_registers" = some (some (.ref f5)))
    (l5 : K.lookup f5 = some ⟨oc5, od5, .func (PySem.W.fnOf "check_registers" "check_registers" (defArgs s_check_registers) (defBody s_check_registers) (defScope s_check_registers) .none kV5 dc5 pm5 an5 cd5 ct5), sl5⟩)
    (c5 : PySem.W.codeIn K cd5 "check_registers" = true)
    (k5 : PySem.W.keepIn K (.ref f5) = true)
    (a6 : PySem.W.nsIn K mainGlobals "check_variable" = some (some (.ref f6)))
    (l6 : K.lookup f6 = some ⟨oc6, od6, .func (PySem.W.fnOf "check_variable" "check_variable" (defArgs s_check_variable) (defBody s_check_variable) (defScope s_check_variable) .none kV6 dc6 pm6 an6 cd6 ct6), sl6⟩)
    (c6 : PySem.W.codeIn K cd6 "check_variable" = true)
    (k6 : PySem.W.keepIn K (.ref f6) = true)
    (a7 : PySem.W.nsIn K mainGlobals "check_yes_or_no" = some (some (.ref f7)))
    (l7 : K.lookup f7 = some ⟨oc7, od7, .func (PySem.W.fnOf "check_yes_or_no" "check_yes_or_no" (defArgs s_check_yes_or_no) (defBody s_check_yes_or_no) (defScope s_check_yes_or_no) .none kV7 dc7 pm7 an7 cd7 ct7), sl7⟩)
    (c7 : PySem.W.codeIn K cd7 "check_yes_or_no" = true)
    (k7 : PySem.W.keepIn K (.ref f7) = true)
    (a8 : PySem.W.nsIn K mainGlobals "is_order" = some (some (.ref f8)))
    (l8 : K.lookup f8 = some ⟨oc8, od8, .func (PySem.W.fnOf "is_order" "is_order" (defArgs s_is_order) (defBody s_is_order) (defScope s_is_order) .none kV8 dc8 pm8 an8 cd8 ct8), sl8⟩)
    (c8 : PySem.W.codeIn K cd8 "is_order" = true)
    (k8 : PySem.W.keepIn K (.ref f8) = true)
    (a9 : PySem.W.nsIn K mainGlobals "fixed_parts" = some (some (.ref f9)))
    (l9 : K.lookup f9 = some ⟨oc9, od9, .func (PySem.W.fnOf "fixed_parts" "fixed_parts" (defArgs s_fixed_parts) (defBody s_fixed_parts) (defScope s_fixed_parts) .none kV9 dc9 pm9 an9 cd9 ct9), sl9⟩)
    (c9 : PySem.W.codeIn K cd9 "fixed_parts" = true)
    (k9 : PySem.W.keepIn K (.ref f9) = true)
    (a10 : PySem.W.nsIn K mainGlobals "parts_by_done" = some (some (.ref f10)))
    (l10 : K.lookup f10 = some ⟨oc10, od10, .func (PySem.W.fnOf "parts_by_done" "parts_by_done" (defArgs s_parts_by_done) (defBody s_parts_by_done) (defScope s_parts_by_done) .none kV10 dc10 pm10 an10 cd10 ct10), sl10⟩)
    (c10 : PySem.W.codeIn K cd10 "parts_by_done" = true)
    (k10 : PySem.W.keepIn K (.ref f10) = true)
    (a11 : PySem.W.nsIn K mainGlobals "nodes_next" = some (some (.ref f11)))
    (l11 : K.lookup f11 = some ⟨oc11, od11, .func (PySem.W.fnOf "nodes_next" "nodes_next" (defArgs s_nodes_next) (defBody s_nodes_next) (defScope s_nodes_next) .none kV11 dc11 pm11 an11 cd11 ct11), sl11⟩)
    (c11 : PySem.W.codeIn K cd11 "nodes_next" = true)
    (k11 : PySem.W.keepIn K (.ref f11) = true)
    (a12 : PySem.W.nsIn K mainGlobals "places_left" = some (some (.ref f12)))
    (l12 : K.lookup f12 = some ⟨oc12, od12, .func (PySem.W.fnOf "places_left" "places_left" (defArgs s_places_left) (defBody s_places_left) (defScope s_places_left) .none kV12 dc12 pm12 an12 cd12 ct12), sl12⟩)
    (c12 : PySem.W.codeIn K cd12 "places_left" = true)
    (k12 : PySem.W.keepIn K (.ref f12) = true)
    (a13 : PySem.W.nsIn K mainGlobals "nodes_through" = some (some (.ref f13)))
    (l13 : K.lookup f13 = some ⟨oc13, od13, .func (PySem.W.fnOf "nodes_through" "nodes_through" (defArgs s_nodes_through) (defBody s_nodes_through) (defScope s_nodes_through) .none kV13 dc13 pm13 an13 cd13 ct13), sl13⟩)
    (c13 : PySem.W.codeIn K cd13 "nodes_through" = true)
    (k13 : PySem.W.keepIn K (.ref f13) = true)
    (a14 : PySem.W.nsIn K mainGlobals "fewest_nodes" = some (some (.ref f14)))
    (l14 : K.lookup f14 = some ⟨oc14, od14, .func (PySem.W.fnOf "fewest_nodes" "fewest_nodes" (defArgs s_fewest_nodes) (defBody s_fewest_nodes) (defScope s_fewest_nodes) .none kV14 dc14 pm14 an14 cd14 ct14), sl14⟩)
    (c14 : PySem.W.codeIn K cd14 "fewest_nodes" = true)
    (k14 : PySem.W.keepIn K (.ref f14) = true)
    (a15 : PySem.W.nsIn K mainGlobals "best_next" = some (some (.ref f15)))
    (l15 : K.lookup f15 = some ⟨oc15, od15, .func (PySem.W.fnOf "best_next" "best_next" (defArgs s_best_next) (defBody s_best_next) (defScope s_best_next) .none kV15 dc15 pm15 an15 cd15 ct15), sl15⟩)
    (c15 : PySem.W.codeIn K cd15 "best_next" = true)
    (k15 : PySem.W.keepIn K (.ref f15) = true)
    (a16 : PySem.W.nsIn K mainGlobals "best_order" = some (some (.ref f16)))
    (l16 : K.lookup f16 = some ⟨oc16, od16, .func (PySem.W.fnOf "best_order" "best_order" (defArgs s_best_order) (defBody s_best_order) (defScope s_best_order) .none kV16 dc16 pm16 an16 cd16 ct16), sl16⟩)
    (c16 : PySem.W.codeIn K cd16 "best_order" = true)
    (k16 : PySem.W.keepIn K (.ref f16) = true)
    (a17 : PySem.W.nsIn K mainGlobals "with_length" = some (some (.ref f17)))
    (l17 : K.lookup f17 = some ⟨oc17, od17, .func (PySem.W.fnOf "with_length" "with_length" (defArgs s_with_length) (defBody s_with_length) (defScope s_with_length) .none kV17 dc17 pm17 an17 cd17 ct17), sl17⟩)
    (c17 : PySem.W.codeIn K cd17 "with_length" = true)
    (k17 : PySem.W.keepIn K (.ref f17) = true)
    (a18 : PySem.W.nsIn K mainGlobals "call_const" = some (some (.ref f18)))
    (l18 : K.lookup f18 = some ⟨oc18, od18, .func (PySem.W.fnOf "call_const" "call_const" (defArgs s_call_const) (defBody s_call_const) (defScope s_call_const) .none kV18 dc18 pm18 an18 cd18 ct18), sl18⟩)
    (c18 : PySem.W.codeIn K cd18 "call_const" = true)
    (k18 : PySem.W.keepIn K (.ref f18) = true)
    (a19 : PySem.W.nsIn K mainGlobals "call_var" = some (some (.ref f19)))
    (l19 : K.lookup f19 = some ⟨oc19, od19, .func (PySem.W.fnOf "call_var" "call_var" (defArgs s_call_var) (defBody s_call_var) (defScope s_call_var) .none kV19 dc19 pm19 an19 cd19 ct19), sl19⟩)
    (c19 : PySem.W.codeIn K cd19 "call_var" = true)
    (k19 : PySem.W.keepIn K (.ref f19) = true)
    (a20 : PySem.W.nsIn K mainGlobals "call_not" = some (some (.ref f20)))
    (l20 : K.lookup f20 = some ⟨oc20, od20, .func (PySem.W.fnOf "call_not" "call_not" (defArgs s_call_not) (defBody s_call_not) (defScope s_call_not) .none kV20 dc20 pm20 an20 cd20 ct20), sl20⟩)
    (c20 : PySem.W.codeIn K cd20 "call_not" = true)
    (k20 : PySem.W.keepIn K (.ref f20) = true)
    (a21 : PySem.W.nsIn K mainGlobals "call_two" = some (some (.ref f21)))
    (l21 : K.lookup f21 = some ⟨oc21, od21, .func (PySem.W.fnOf "call_two" "call_two" (defArgs s_call_two) (defBody s_call_two) (defScope s_call_two) .none kV21 dc21 pm21 an21 cd21 ct21), sl21⟩)
    (c21 : PySem.W.codeIn K cd21 "call_two" = true)
    (k21 : PySem.W.keepIn K (.ref f21) = true)
    (a22 : PySem.W.nsIn K mainGlobals "call_choose" = some (some (.ref f22)))
    (l22 : K.lookup f22 = some ⟨oc22, od22, .func (PySem.W.fnOf "call_choose" "call_choose" (defArgs s_call_choose) (defBody s_call_choose) (defScope s_call_choose) .none kV22 dc22 pm22 an22 cd22 ct22), sl22⟩)
    (c22 : PySem.W.codeIn K cd22 "call_choose" = true)
    (k22 : PySem.W.keepIn K (.ref f22) = true)
    (a23 : PySem.W.nsIn K mainGlobals "call_fix" = some (some (.ref f23)))
    (l23 : K.lookup f23 = some ⟨oc23, od23, .func (PySem.W.fnOf "call_fix" "call_fix" (defArgs s_call_fix) (defBody s_call_fix) (defScope s_call_fix) .none kV23 dc23 pm23 an23 cd23 ct23), sl23⟩)
    (c23 : PySem.W.codeIn K cd23 "call_fix" = true)
    (k23 : PySem.W.keepIn K (.ref f23) = true)
    (a24 : PySem.W.nsIn K mainGlobals "both_fixed" = some (some (.ref f24)))
    (l24 : K.lookup f24 = some ⟨oc24, od24, .func (PySem.W.fnOf "both_fixed" "both_fixed" (defArgs s_both_fixed) (defBody s_both_fixed) (defScope s_both_fixed) .none kV24 dc24 pm24 an24 cd24 ct24), sl24⟩)
    (c24 : PySem.W.codeIn K cd24 "both_fixed" = true)
    (k24 : PySem.W.keepIn K (.ref f24) = true)
    (a25 : PySem.W.nsIn K mainGlobals "call_some" = some (some (.ref f25)))
    (l25 : K.lookup f25 = some ⟨oc25, od25, .func (PySem.W.fnOf "call_some" "call_some" (defArgs s_call_some) (defBody s_call_some) (defScope s_call_some) .none kV25 dc25 pm25 an25 cd25 ct25), sl25⟩)
    (c25 : PySem.W.codeIn K cd25 "call_some" = true)
    (k25 : PySem.W.keepIn K (.ref f25) = true)
    (a26 : PySem.W.nsIn K mainGlobals "call_all" = some (some (.ref f26)))
    (l26 : K.lookup f26 = some ⟨oc26, od26, .func (PySem.W.fnOf "call_all" "call_all" (defArgs s_call_all) (defBody s_call_all) (defScope s_call_all) .none kV26 dc26 pm26 an26 cd26 ct26), sl26⟩)
    (c26 : PySem.W.codeIn K cd26 "call_all" = true)
    (k26 : PySem.W.keepIn K (.ref f26) = true)
    (a27 : PySem.W.nsIn K mainGlobals "call_put" = some (some (.ref f27)))
    (l27 : K.lookup f27 = some ⟨oc27, od27, .func (PySem.W.fnOf "call_put" "call_put" (defArgs s_call_put) (defBody s_call_put) (defScope s_call_put) .none kV27 dc27 pm27 an27 cd27 ct27), sl27⟩)
    (c27 : PySem.W.codeIn K cd27 "call_put" = true)
    (k27 : PySem.W.keepIn K (.ref f27) = true)
    (a28 : PySem.W.nsIn K mainGlobals "call_value" = some (some (.ref f28)))
    (l28 : K.lookup f28 = some ⟨oc28, od28, .func (PySem.W.fnOf "call_value" "call_value" (defArgs s_call_value) (defBody s_call_value) (defScope s_call_value) .none kV28 dc28 pm28 an28 cd28 ct28), sl28⟩)
    (c28 : PySem.W.codeIn K cd28 "call_value" = true)
    (k28 : PySem.W.keepIn K (.ref f28) = true)
    (a29 : PySem.W.nsIn K mainGlobals "call_count" = some (some (.ref f29)))
    (l29 : K.lookup f29 = some ⟨oc29, od29, .func (PySem.W.fnOf "call_count" "call_count" (defArgs s_call_count) (defBody s_call_count) (defScope s_call_count) .none kV29 dc29 pm29 an29 cd29 ct29), sl29⟩)
    (c29 : PySem.W.codeIn K cd29 "call_count" = true)
    (k29 : PySem.W.keepIn K (.ref f29) = true)
    (a30 : PySem.W.nsIn K mainGlobals "call_first" = some (some (.ref f30)))
    (l30 : K.lookup f30 = some ⟨oc30, od30, .func (PySem.W.fnOf "call_first" "call_first" (defArgs s_call_first) (defBody s_call_first) (defScope s_call_first) .none kV30 dc30 pm30 an30 cd30 ct30), sl30⟩)
    (c30 : PySem.W.codeIn K cd30 "call_first" = true)
    (k30 : PySem.W.keepIn K (.ref f30) = true)
    (a31 : PySem.W.nsIn K mainGlobals "call_matters" = some (some (.ref f31)))
    (l31 : K.lookup f31 = some ⟨oc31, od31, .func (PySem.W.fnOf "call_matters" "call_matters" (defArgs s_call_matters) (defBody s_call_matters) (defScope s_call_matters) .none kV31 dc31 pm31 an31 cd31 ct31), sl31⟩)
    (c31 : PySem.W.codeIn K cd31 "call_matters" = true)
    (k31 : PySem.W.keepIn K (.ref f31) = true)
    (a32 : PySem.W.nsIn K mainGlobals "call_diagram" = some (some (.ref f32)))
    (l32 : K.lookup f32 = some ⟨oc32, od32, .func (PySem.W.fnOf "call_diagram" "call_diagram" (defArgs s_call_diagram) (defBody s_call_diagram) (defScope s_call_diagram) .none kV32 dc32 pm32 an32 cd32 ct32), sl32⟩)
    (c32 : PySem.W.codeIn K cd32 "call_diagram" = true)
    (k32 : PySem.W.keepIn K (.ref f32) = true)
    (a33 : PySem.W.nsIn K mainGlobals "call_best" = some (some (.ref f33)))
    (l33 : K.lookup f33 = some ⟨oc33, od33, .func (PySem.W.fnOf "call_best" "call_best" (defArgs s_call_best) (defBody s_call_best) (defScope s_call_best) .none kV33 dc33 pm33 an33 cd33 ct33), sl33⟩)
    (c33 : PySem.W.codeIn K cd33 "call_best" = true)
    (k33 : PySem.W.keepIn K (.ref f33) = true)
    (a34 : PySem.W.nsIn K mainGlobals "call_within" = some (some (.ref f34)))
    (l34 : K.lookup f34 = some ⟨oc34, od34, .func (PySem.W.fnOf "call_within" "call_within" (defArgs s_call_within) (defBody s_call_within) (defScope s_call_within) .none kV34 dc34 pm34 an34 cd34 ct34), sl34⟩)
    (c34 : PySem.W.codeIn K cd34 "call_within" = true)
    (k34 : PySem.W.keepIn K (.ref f34) = true)
    (a35 : PySem.W.nsIn K mainGlobals "answer_of" = some (some (.ref f35)))
    (l35 : K.lookup f35 = some ⟨oc35, od35, .func (PySem.W.fnOf "answer_of" "answer_of" (defArgs s_answer_of) (defBody s_answer_of) (defScope s_answer_of) .none kV35 dc35 pm35 an35 cd35 ct35), sl35⟩)
    (c35 : PySem.W.codeIn K cd35 "answer_of" = true)
    (k35 : PySem.W.keepIn K (.ref f35) = true)
    (a36 : PySem.W.nsIn K mainGlobals "answers" = some (some (.ref f36)))
    (l36 : K.lookup f36 = some ⟨oc36, od36, .func (PySem.W.fnOf "answers" "answers" (defArgs s_answers) (defBody s_answers) (defScope s_answers) .none kV36 dc36 pm36 an36 cd36 ct36), sl36⟩)
    (c36 : PySem.W.codeIn K cd36 "answers" = true)
    (k36 : PySem.W.keepIn K (.ref f36) = true)
    (a37 : PySem.W.findIn K (.ref cCases) "__init__" = some (some (.ref f37)))
    (i37 : PySem.W.isFn K (.ref f37) = true)
    (l37 : K.lookup f37 = some ⟨oc37, od37, .func (PySem.W.fnOf "__init__" "Cases.__init__" (defArgs s_Cases_init) (defBody s_Cases_init) (defScope s_Cases_init) .none kV37 dc37 pm37 an37 cd37 ct37), sl37⟩)
    (c37 : PySem.W.codeIn K cd37 "Cases.__init__" = true)
    (k37 : PySem.W.keepIn K (.ref f37) = true)
    (a38 : PySem.W.findIn K (.ref cCases) "opposite" = some (some (.ref f38)))
    (i38 : PySem.W.isFn K (.ref f38) = true)
    (l38 : K.lookup f38 = some ⟨oc38, od38, .func (PySem.W.fnOf "opposite" "Cases.opposite" (defArgs s_Cases_opposite) (defBody s_Cases_opposite) (defScope s_Cases_opposite) .none kV38 dc38 pm38 an38 cd38 ct38), sl38⟩)
    (c38 : PySem.W.codeIn K cd38 "Cases.opposite" = true)
    (k38 : PySem.W.keepIn K (.ref f38) = true)
    (a39 : PySem.W.findIn K (.ref cCases) "constant" = some (some (.ref f39)))
    (i39 : PySem.W.isFn K (.ref f39) = true)
    (l39 : K.lookup f39 = some ⟨oc39, od39, .func (PySem.W.fnOf "constant" "Cases.constant" (defArgs s_Cases_constant) (defBody s_Cases_constant) (defScope s_Cases_constant) .none kV39 dc39 pm39 an39 cd39 ct39), sl39⟩)
    (c39 : PySem.W.codeIn K cd39 "Cases.constant" = true)
    (k39 : PySem.W.keepIn K (.ref f39) = true)
    (a40 : PySem.W.findIn K (.ref cCases) "where" = some (some (.ref f40)))
    (i40 : PySem.W.isFn K (.ref f40) = true)
    (l40 : K.lookup f40 = some ⟨oc40, od40, .func (PySem.W.fnOf "where" "Cases.where" (defArgs s_Cases_where) (defBody s_Cases_where) (defScope s_Cases_where) .none kV40 dc40 pm40 an40 cd40 ct40), sl40⟩)
    (c40 : PySem.W.codeIn K cd40 "Cases.where" = true)
    (k40 : PySem.W.keepIn K (.ref f40) = true)
    (a41 : PySem.W.findIn K (.ref cCases) "combined" = some (some (.ref f41)))
    (i41 : PySem.W.isFn K (.ref f41) = true)
    (l41 : K.lookup f41 = some ⟨oc41, od41, .func (PySem.W.fnOf "combined" "Cases.combined" (defArgs s_Cases_combined) (defBody s_Cases_combined) (defScope s_Cases_combined) .none kV41 dc41 pm41 an41 cd41 ct41), sl41⟩)
    (c41 : PySem.W.codeIn K cd41 "Cases.combined" = true)
    (k41 : PySem.W.keepIn K (.ref f41) = true)
    (a42 : PySem.W.findIn K (.ref cCases) "chosen" = some (some (.ref f42)))
    (i42 : PySem.W.isFn K (.ref f42) = true)
    (l42 : K.lookup f42 = some ⟨oc42, od42, .func (PySem.W.fnOf "chosen" "Cases.chosen" (defArgs s_Cases_chosen) (defBody s_Cases_chosen) (defScope s_Cases_chosen) .none kV42 dc42 pm42 an42 cd42 ct42), sl42⟩)
    (c42 : PySem.W.codeIn K cd42 "Cases.chosen" = true)
    (k42 : PySem.W.keepIn K (.ref f42) = true)
    (a43 : PySem.W.findIn K (.ref cCases) "fixed" = some (some (.ref f43)))
    (i43 : PySem.W.isFn K (.ref f43) = true)
    (l43 : K.lookup f43 = some ⟨oc43, od43, .func (PySem.W.fnOf "fixed" "Cases.fixed" (defArgs s_Cases_fixed) (defBody s_Cases_fixed) (defScope s_Cases_fixed) .none kV43 dc43 pm43 an43 cd43 ct43), sl43⟩)
    (c43 : PySem.W.codeIn K cd43 "Cases.fixed" = true)
    (k43 : PySem.W.keepIn K (.ref f43) = true)
    (a44 : PySem.W.findIn K (.ref cCases) "composed" = some (some (.ref f44)))
    (i44 : PySem.W.isFn K (.ref f44) = true)
    (l44 : K.lookup f44 = some ⟨oc44, od44, .func (PySem.W.fnOf "composed" "Cases.composed" (defArgs s_Cases_composed) (defBody s_Cases_composed) (defScope s_Cases_composed) .none kV44 dc44 pm44 an44 cd44 ct44), sl44⟩)
    (c44 : PySem.W.codeIn K cd44 "Cases.composed" = true)
    (k44 : PySem.W.keepIn K (.ref f44) = true)
    (a45 : PySem.W.findIn K (.ref cCases) "matters_to" = some (some (.ref f45)))
    (i45 : PySem.W.isFn K (.ref f45) = true)
    (l45 : K.lookup f45 = some ⟨oc45, od45, .func (PySem.W.fnOf "matters_to" "Cases.matters_to" (defArgs s_Cases_matters_to) (defBody s_Cases_matters_to) (defScope s_Cases_matters_to) .none kV45 dc45 pm45 an45 cd45 ct45), sl45⟩)
    (c45 : PySem.W.codeIn K cd45 "Cases.matters_to" = true)
    (k45 : PySem.W.keepIn K (.ref f45) = true)
    (a46 : PySem.W.findIn K (.ref cCases) "mattering" = some (some (.ref f46)))
    (i46 : PySem.W.isFn K (.ref f46) = true)
    (l46 : K.lookup f46 = some ⟨oc46, od46, .func (PySem.W.fnOf "mattering" "Cases.mattering" (defArgs s_Cases_mattering) (defBody s_Cases_mattering) (defScope s_Cases_mattering) .none kV46 dc46 pm46 an46 cd46 ct46), sl46⟩)
    (c46 : PySem.W.codeIn K cd46 "Cases.mattering" = true)
    (k46 : PySem.W.keepIn K (.ref f46) = true)
    (a47 : PySem.W.findIn K (.ref cCases) "how_many" = some (some (.ref f47)))
    (i47 : PySem.W.isFn K (.ref f47) = true)
    (l47 : K.lookup f47 = some ⟨oc47, od47, .func (PySem.W.fnOf "how_many" "Cases.how_many" (defArgs s_Cases_how_many) (defBody s_Cases_how_many) (defScope s_Cases_how_many) .none kV47 dc47 pm47 an47 cd47 ct47), sl47⟩)
    (c47 : PySem.W.codeIn K cd47 "Cases.how_many" = true)
    (k47 : PySem.W.keepIn K (.ref f47) = true)
    (a48 : PySem.W.findIn K (.ref cDiagram) "__init__" = some (some (.ref f48)))
    (i48 : PySem.W.isFn K (.ref f48) = true)
    (l48 : K.lookup f48 = some ⟨oc48, od48, .func (PySem.W.fnOf "__init__" "Diagram.__init__" (defArgs s_Diagram_init) (defBody s_Diagram_init) (defScope s_Diagram_init) .none kV48 dc48 pm48 an48 cd48 ct48), sl48⟩)
    (c48 : PySem.W.codeIn K cd48 "Diagram.__init__" = true)
    (k48 : PySem.W.keepIn K (.ref f48) = true)
    (a49 : PySem.W.findIn K (.ref cDiagram) "place_of" = some (some (.ref f49)))
    (i49 : PySem.W.isFn K (.ref f49) = true)
    (l49 : K.lookup f49 = some ⟨oc49, od49, .func (PySem.W.fnOf "place_of" "Diagram.place_of" (defArgs s_Diagram_place_of) (defBody s_Diagram_place_of) (defScope s_Diagram_place_of) .none kV49 dc49 pm49 an49 cd49 ct49), sl49⟩)
    (c49 : PySem.W.codeIn K cd49 "Diagram.place_of" = true)
    (k49 : PySem.W.keepIn K (.ref f49) = true)
    (a50 : PySem.W.findIn K (.ref cDiagram) "node_numbers" = some (some (.ref f50)))
    (i50 : PySem.W.isFn K (.ref f50) = true)
    (l50 : K.lookup f50 = some ⟨oc50, od50, .func (PySem.W.fnOf "node_numbers" "Diagram.node_numbers" (defArgs s_Diagram_node_numbers) (defBody s_Diagram_node_numbers) (defScope s_Diagram_node_numbers) .none kV50 dc50 pm50 an50 cd50 ct50), sl50⟩)
    (c50 : PySem.W.codeIn K cd50 "Diagram.node_numbers" = true)
    (k50 : PySem.W.keepIn K (.ref f50) = true)
    (a51 : PySem.W.findIn K (.ref cCallReader) "__init__" = some (some (.ref f51)))
    (i51 : PySem.W.isFn K (.ref f51) = true)
    (l51 : K.lookup f51 = some ⟨oc51, od51, .func (PySem.W.fnOf "__init__" "CallReader.__init__" (defArgs s_CallReader_init) (defBody s_CallReader_init) (defScope s_CallReader_init) .none kV51 dc51 pm51 an51 cd51 ct51), sl51⟩)
    (c51 : PySem.W.codeIn K cd51 "CallReader.__init__" = true)
    (k51 : PySem.W.keepIn K (.ref f51) = true)
    (a52 : PySem.W.findIn K (.ref cCallReader) "has_more" = some (some (.ref f52)))
    (i52 : PySem.W.isFn K (.ref f52) = true)
    (l52 : K.lookup f52 = some ⟨oc52, od52, .func (PySem.W.fnOf "has_more" "CallReader.has_more" (defArgs s_CallReader_has_more) (defBody s_CallReader_has_more) (defScope s_CallReader_has_more) .none kV52 dc52 pm52 an52 cd52 ct52), sl52⟩)
    (c52 : PySem.W.codeIn K cd52 "CallReader.has_more" = true)
    (k52 : PySem.W.keepIn K (.ref f52) = true)
    (a53 : PySem.W.findIn K (.ref cCallReader) "taken" = some (some (.ref f53)))
    (i53 : PySem.W.isFn K (.ref f53) = true)
    (l53 : K.lookup f53 = some ⟨oc53, od53, .func (PySem.W.fnOf "taken" "CallReader.taken" (defArgs s_CallReader_taken) (defBody s_CallReader_taken) (defScope s_CallReader_taken) .none kV53 dc53 pm53 an53 cd53 ct53), sl53⟩)
    (c53 : PySem.W.codeIn K cd53 "CallReader.taken" = true)
    (k53 : PySem.W.keepIn K (.ref f53) = true)
    (a54 : PySem.W.findIn K (.ref cCallReader) "taken_call" = some (some (.ref f54)))
    (i54 : PySem.W.isFn K (.ref f54) = true)
    (l54 : K.lookup f54 = some ⟨oc54, od54, .func (PySem.W.fnOf "taken_call" "CallReader.taken_call" (defArgs s_CallReader_taken_call) (defBody s_CallReader_taken_call) (defScope s_CallReader_taken_call) .none kV54 dc54 pm54 an54 cd54 ct54), sl54⟩)
    (c54 : PySem.W.codeIn K cd54 "CallReader.taken_call" = true)
    (k54 : PySem.W.keepIn K (.ref f54) = true)
    (a55 : PySem.W.findIn K (.ref cState) "__init__" = some (some (.ref f55)))
    (i55 : PySem.W.isFn K (.ref f55) = true)
    (l55 : K.lookup f55 = some ⟨oc55, od55, .func (PySem.W.fnOf "__init__" "State.__init__" (defArgs s_State_init) (defBody s_State_init) (defScope s_State_init) .none kV55 dc55 pm55 an55 cd55 ct55), sl55⟩)
    (c55 : PySem.W.codeIn K cd55 "State.__init__" = true)
    (k55 : PySem.W.keepIn K (.ref f55) = true)
    (a56 : PySem.W.findIn K (.ref cState) "keep" = some (some (.ref f56)))
    (i56 : PySem.W.isFn K (.ref f56) = true)
    (l56 : K.lookup f56 = some ⟨oc56, od56, .func (PySem.W.fnOf "keep" "State.keep" (defArgs s_State_keep) (defBody s_State_keep) (defScope s_State_keep) .none kV56 dc56 pm56 an56 cd56 ct56), sl56⟩)
    (c56 : PySem.W.codeIn K cd56 "State.keep" = true)
    (k56 : PySem.W.keepIn K (.ref f56) = true)
    (a57 : PySem.W.findIn K (.ref cRefusal) "__init__" = some (some (.ref f57)))
    (i57 : PySem.W.isFn K (.ref f57) = true)
    (l57 : K.lookup f57 = some ⟨oc57, od57, .func (PySem.W.fnOf "__init__" "Refusal.__init__" (defArgs s_Refusal_init) (defBody s_Refusal_init) (defScope s_Refusal_init) .none kV57 dc57 pm57 an57 cd57 ct57), sl57⟩)
    (c57 : PySem.W.codeIn K cd57 "Refusal.__init__" = true)
    (k57 : PySem.W.keepIn K (.ref f57) = true)
    (a58 : PySem.W.findIn K (.ref cOutOfRange) "__init__" = some (some (.ref f58)))
    (i58 : PySem.W.isFn K (.ref f58) = true)
    (l58 : K.lookup f58 = some ⟨oc58, od58, .func (PySem.W.fnOf "__init__" "OutOfRange.__init__" (defArgs s_OutOfRange_init) (defBody s_OutOfRange_init) (defScope s_OutOfRange_init) .none kV58 dc58 pm58 an58 cd58 ct58), sl58⟩)
    (c58 : PySem.W.codeIn K cd58 "OutOfRange.__init__" = true)
    (k58 : PySem.W.keepIn K (.ref f58) = true)
    (a59 : PySem.W.findIn K (.ref cNoCase) "__init__" = some (some (.ref f59)))
    (i59 : PySem.W.isFn K (.ref f59) = true)
    (l59 : K.lookup f59 = some ⟨oc59, od59, .func (PySem.W.fnOf "__init__" "NoCase.__init__" (defArgs s_NoCase_init) (defBody s_NoCase_init) (defScope s_NoCase_init) .none kV59 dc59 pm59 an59 cd59 ct59), sl59⟩)
    (c59 : PySem.W.codeIn K cd59 "NoCase.__init__" = true)
    (k59 : PySem.W.keepIn K (.ref f59) = true)
    (a60 : PySem.W.findIn K (.ref cTooManyMatter) "__init__" = some (some (.ref f60)))
    (i60 : PySem.W.isFn K (.ref f60) = true)
    (l60 : K.lookup f60 = some ⟨oc60, od60, .func (PySem.W.fnOf "__init__" "TooManyMatter.__init__" (defArgs s_TooManyMatter_init) (defBody s_TooManyMatter_init) (defScope s_TooManyMatter_init) .none kV60 dc60 pm60 an60 cd60 ct60), sl60⟩)
    (c60 : PySem.W.codeIn K cd60 "TooManyMatter.__init__" = true)
    (k60 : PySem.W.keepIn K (.ref f60) = true)
    (pgCases : PySem.W.plainGet K cCases Str.empty = true)
    (hdCases : PySem.W.hasDictIn K cCases = true)
    (poCases : PySem.W.plainOver K cCases = true)
    (saCases : PySem.W.findIn K (.ref cCases) "__setattr__" = some (some (.builtin "object.__setattr__")))
    (mkCases : PySem.W.makesIn K cCases = true)
    (kcCases : PySem.W.keepIn K (.ref cCases) = true)
    (noCaseseverywhere : PySem.W.findIn K (.ref cCases) "everywhere" = some none)
    (noCasesyes : PySem.W.findIn K (.ref cCases) "yes" = some none)
    (noCasesno : PySem.W.findIn K (.ref cCases) "no" = some none)
    (pgDiagram : PySem.W.plainGet K cDiagram Str.empty = true)
    (hdDiagram : PySem.W.hasDictIn K cDiagram = true)
    (poDiagram : PySem.W.plainOver K cDiagram = true)
    (saDiagram : PySem.W.findIn K (.ref cDiagram) "__setattr__" = some (some (.builtin "object.__setattr__")))
    (mkDiagram : PySem.W.makesIn K cDiagram = true)
    (kcDiagram : PySem.W.keepIn K (.ref cDiagram) = true)
    (noDiagramcases : PySem.W.findIn K (.ref cDiagram) "cases" = some none)
    (noDiagramorder : PySem.W.findIn K (.ref cDiagram) "order" = some none)
    (noDiagramnodes : PySem.W.findIn K (.ref cDiagram) "nodes" = some none)
    (noDiagramnode_places : PySem.W.findIn K (.ref cDiagram) "node_places" = some none)
    (noDiagrambegins : PySem.W.findIn K (.ref cDiagram) "begins" = some none)
    (pgCallReader : PySem.W.plainGet K cCallReader Str.empty = true)
    (hdCallReader : PySem.W.hasDictIn K cCallReader = true)
    (poCallReader : PySem.W.plainOver K cCallReader = true)
    (saCallReader : PySem.W.findIn K (.ref cCallReader) "__setattr__" = some (some (.builtin "object.__setattr__")))
    (mkCallReader : PySem.W.makesIn K cCallReader = true)
    (kcCallReader : PySem.W.keepIn K (.ref cCallReader) = true)
    (noCallReadernumbers : PySem.W.findIn K (.ref cCallReader) "numbers" = some none)
    (noCallReaderat : PySem.W.findIn K (.ref cCallReader) "at" = some none)
    (pgState : PySem.W.plainGet K cState Str.empty = true)
    (hdState : PySem.W.hasDictIn K cState = true)
    (poState : PySem.W.plainOver K cState = true)
    (saState : PySem.W.findIn K (.ref cState) "__setattr__" = some (some (.builtin "object.__setattr__")))
    (mkState : PySem.W.makesIn K cState = true)
    (kcState : PySem.W.keepIn K (.ref cState) = true)
    (noStatecases : PySem.W.findIn K (.ref cState) "cases" = some none)
    (noStatefunctions : PySem.W.findIn K (.ref cState) "functions" = some none)
    (xiRefusal : PySem.W.excInitIn K cRefusal [.type "Exception", .type "BaseException", .type "object"] "Exception.__new__" = true)
    (xoRefusal : PySem.W.excOver K cRefusal [.type "Exception", .type "BaseException", .type "object"] = true)
    (xhRefusal : PySem.W.hasDictIn K cRefusal = true)
    (xsRefusal : PySem.W.findIn K (.ref cRefusal) "__setattr__" = some (some (.builtin "object.__setattr__")))
    (xgRefusal : PySem.W.findIn K (.ref cRefusal) "__getattribute__" = some (some (.builtin "BaseException.__getattribute__")))
    (xqRefusal : PySem.W.findIn K (.ref cRefusal) "__getattr__" = some none)
    (xnRefusal : PySem.W.findIn K (.ref cRefusal) "number" = some none)
    (xtRefusal : PySem.W.typeIn K (.ref f57) = some (.type "function"))
    (xkRefusal : PySem.W.keepIn K (.ref cRefusal) = true)
    (xbRefusal : PySem.W.subIn K (.ref cRefusal) (.type "BaseException") = some true)
    (xyRefusal : PySem.W.typeIn K (.ref cRefusal) = some (.type "type"))
    (xuRefusal : PySem.W.subIn K (.ref cRefusal) (.ref cRefusal) = some true)
    (xcRefusal : PySem.W.isClsIn K cRefusal = true)
    (xiOutOfRange : PySem.W.excInitIn K cOutOfRange [.type "Exception", .type "BaseException", .type "object"] "Exception.__new__" = true)
    (xoOutOfRange : PySem.W.excOver K cOutOfRange [.type "Exception", .type "BaseException", .type "object"] = true)
    (xhOutOfRange : PySem.W.hasDictIn K cOutOfRange = true)
    (xsOutOfRange : PySem.W.findIn K (.ref cOutOfRange) "__setattr__" = some (some (.builtin "object.__setattr__")))
    (xgOutOfRange : PySem.W.findIn K (.ref cOutOfRange) "__getattribute__" = some (some (.builtin "BaseException.__getattribute__")))
    (xqOutOfRange : PySem.W.findIn K (.ref cOutOfRange) "__getattr__" = some none)
    (xnOutOfRange : PySem.W.findIn K (.ref cOutOfRange) "number" = some none)
    (xtOutOfRange : PySem.W.typeIn K (.ref f58) = some (.type "function"))
    (xkOutOfRange : PySem.W.keepIn K (.ref cOutOfRange) = true)
    (xbOutOfRange : PySem.W.subIn K (.ref cOutOfRange) (.type "BaseException") = some true)
    (xyOutOfRange : PySem.W.typeIn K (.ref cOutOfRange) = some (.type "type"))
    (xuOutOfRange : PySem.W.subIn K (.ref cOutOfRange) (.ref cRefusal) = some true)
    (xiNoCase : PySem.W.excInitIn K cNoCase [.type "Exception", .type "BaseException", .type "object"] "Exception.__new__" = true)
    (xoNoCase : PySem.W.excOver K cNoCase [.type "Exception", .type "BaseException", .type "object"] = true)
    (xhNoCase : PySem.W.hasDictIn K cNoCase = true)
    (xsNoCase : PySem.W.findIn K (.ref cNoCase) "__setattr__" = some (some (.builtin "object.__setattr__")))
    (xgNoCase : PySem.W.findIn K (.ref cNoCase) "__getattribute__" = some (some (.builtin "BaseException.__getattribute__")))
    (xqNoCase : PySem.W.findIn K (.ref cNoCase) "__getattr__" = some none)
    (xnNoCase : PySem.W.findIn K (.ref cNoCase) "number" = some none)
    (xtNoCase : PySem.W.typeIn K (.ref f59) = some (.type "function"))
    (xkNoCase : PySem.W.keepIn K (.ref cNoCase) = true)
    (xbNoCase : PySem.W.subIn K (.ref cNoCase) (.type "BaseException") = some true)
    (xyNoCase : PySem.W.typeIn K (.ref cNoCase) = some (.type "type"))
    (xuNoCase : PySem.W.subIn K (.ref cNoCase) (.ref cRefusal) = some true)
    (xiTooManyMatter : PySem.W.excInitIn K cTooManyMatter [.type "Exception", .type "BaseException", .type "object"] "Exception.__new__" = true)
    (xoTooManyMatter : PySem.W.excOver K cTooManyMatter [.type "Exception", .type "BaseException", .type "object"] = true)
    (xhTooManyMatter : PySem.W.hasDictIn K cTooManyMatter = true)
    (xsTooManyMatter : PySem.W.findIn K (.ref cTooManyMatter) "__setattr__" = some (some (.builtin "object.__setattr__")))
    (xgTooManyMatter : PySem.W.findIn K (.ref cTooManyMatter) "__getattribute__" = some (some (.builtin "BaseException.__getattribute__")))
    (xqTooManyMatter : PySem.W.findIn K (.ref cTooManyMatter) "__getattr__" = some none)
    (xnTooManyMatter : PySem.W.findIn K (.ref cTooManyMatter) "number" = some none)
    (xtTooManyMatter : PySem.W.typeIn K (.ref f60) = some (.type "function"))
    (xkTooManyMatter : PySem.W.keepIn K (.ref cTooManyMatter) = true)
    (xbTooManyMatter : PySem.W.subIn K (.ref cTooManyMatter) (.type "BaseException") = some true)
    (xyTooManyMatter : PySem.W.typeIn K (.ref cTooManyMatter) = some (.type "type"))
    (xuTooManyMatter : PySem.W.subIn K (.ref cTooManyMatter) (.ref cRefusal) = some true)
    (rR : PySem.W.readsIn K cRefusal (.type "type") = true)
    (gR : PySem.W.specialIn K (.ref cRefusal) "__getattribute__" = some (some (.builtin "type.__getattribute__")))
    (vR : PySem.W.findCls K (.ref cRefusal) (.type "type") "__init__" = some (.val (.ref f57)))
    (nVARIABLES : PySem.W.nsIn K mainGlobals "VARIABLES" = some (some (.int 10 tVARIABLES)))
    (nCASES : PySem.W.nsIn K mainGlobals "CASES" = some (some (.int 1024 tCASES)))
    (nNO_EVERYWHERE : PySem.W.nsIn K mainGlobals "NO_EVERYWHERE" = some (some (.int 0 tNO_EVERYWHERE)))
    (nREGISTERS : PySem.W.nsIn K mainGlobals "REGISTERS" = some (some (.int 16 tREGISTERS)))
    (nNO : PySem.W.nsIn K mainGlobals "NO" = some (some (.int 0 tNO)))
    (nYES : PySem.W.nsIn K mainGlobals "YES" = some (some (.int 1 tYES)))
    (nFIRST_NODE : PySem.W.nsIn K mainGlobals "FIRST_NODE" = some (some (.int 2 tFIRST_NODE)))
    (nOPS : PySem.W.nsIn K mainGlobals "OPS" = some (some (.int 16 tOPS)))
    (nMOST_MATTERING : PySem.W.nsIn K mainGlobals "MOST_MATTERING" = some (some (.int 5 tMOST_MATTERING)))
    (nDIAGRAM : PySem.W.nsIn K mainGlobals "DIAGRAM" = some (some (.int 13 tDIAGRAM)))
    (blen : PySem.W.nsIn K mainGlobals "len" = some none)
    (brange : PySem.W.nsIn K mainGlobals "range" = some none)
    (blist : PySem.W.nsIn K mainGlobals "list" = some none)
    (bsorted : PySem.W.nsIn K mainGlobals "sorted" = some none)
    (bmin : PySem.W.nsIn K mainGlobals "min" = some none)
    (qP : PySem.W.nsIn K mainGlobals "PLAIN_NUMBERS" = some (some (.ref tP)))
    (zP : K.lookup tP = some ⟨.type "tuple", oP, .seq #[.int 2 u0, .int 2 u1, .int 2 u2, .int 4 u3, .int 4 u4, .int 4 u5, .int 3 u6, .int 3 u7, .int 4 u8, .int 2 u9, .int 1 u10, .int 2 u11, .int 1 u12, .int 1 u13, .int 1 u14, .int 2 u15] nP, slP⟩)
    (qC : PySem.W.nsIn K mainGlobals "CALLS" = some (some (.ref tC)))
    (zC : K.lookup tC = some ⟨.type "tuple", oC, .seq #[.ref f18, .ref f19, .ref f20, .ref f21, .ref f22, .ref f23, .ref f25, .ref f26, .ref f27, .ref f28, .ref f29, .ref f30, .ref f31, .ref f32, .ref f33, .ref f34] nC, slC⟩)
    (eB : cd15 = .ref kB)
    (lB : K.lookup kB = some ⟨ocB, odB, .fields vsB, slB⟩)
    (vB : vsB[11]? = some (.ref pB))
    (hB : PySem.W.codeHdIn K kB pB = true)
    (nB : K.lookup pB = none)
    : ∃ a : Ad, Txt K mg a ∧ a.f_answers = f36 := by
  refine ⟨⟨f1,
    (PySem.W.fnOf "variable_function" "variable_function" (defArgs s_variable_function) (defBody s_variable_function) (defScope s_variable_function) .none kV1 dc1 pm1 an1 cd1 ct1),
    f2,
    (PySem.W.fnOf "least_case" "least_case" (defArgs s_least_case) (defBody s_least_case) (defScope s_least_case) .none kV2 dc2 pm2 an2 cd2 ct2),
    f3,
    (PySem.W.fnOf "says" "says" (defArgs s_says) (defBody s_says) (defScope s_says) .none kV3 dc3 pm3 an3 cd3 ct3),
    f4,
    (PySem.W.fnOf "check_below" "check_below" (defArgs s_check_below) (defBody s_check_below) (defScope s_check_below) .none kV4 dc4 pm4 an4 cd4 ct4),
    f5,
    (PySem.W.fnOf "check_registers" "check_registers" (defArgs s_check_registers) (defBody s_check_registers) (defScope s_check_registers) .none kV5 dc5 pm5 an5 cd5 ct5),
    f6,
    (PySem.W.fnOf "check_variable" "check_variable" (defArgs s_check_variable) (defBody s_check_variable) (defScope s_check_variable) .none kV6 dc6 pm6 an6 cd6 ct6),
    f7,
    (PySem.W.fnOf "check_yes_or_no" "check_yes_or_no" (defArgs s_check_yes_or_no) (defBody s_check_yes_or_no) (defScope s_check_yes_or_no) .none kV7 dc7 pm7 an7 cd7 ct7),
    f8,
    (PySem.W.fnOf "is_order" "is_order" (defArgs s_is_order) (defBody s_is_order) (defScope s_is_order) .none kV8 dc8 pm8 an8 cd8 ct8),
    f9,
    (PySem.W.fnOf "fixed_parts" "fixed_parts" (defArgs s_fixed_parts) (defBody s_fixed_parts) (defScope s_fixed_parts) .none kV9 dc9 pm9 an9 cd9 ct9),
    f10,
    (PySem.W.fnOf "parts_by_done" "parts_by_done" (defArgs s_parts_by_done) (defBody s_parts_by_done) (defScope s_parts_by_done) .none kV10 dc10 pm10 an10 cd10 ct10),
    f11,
    (PySem.W.fnOf "nodes_next" "nodes_next" (defArgs s_nodes_next) (defBody s_nodes_next) (defScope s_nodes_next) .none kV11 dc11 pm11 an11 cd11 ct11),
    f12,
    (PySem.W.fnOf "places_left" "places_left" (defArgs s_places_left) (defBody s_places_left) (defScope s_places_left) .none kV12 dc12 pm12 an12 cd12 ct12),
    f13,
    (PySem.W.fnOf "nodes_through" "nodes_through" (defArgs s_nodes_through) (defBody s_nodes_through) (defScope s_nodes_through) .none kV13 dc13 pm13 an13 cd13 ct13),
    f14,
    (PySem.W.fnOf "fewest_nodes" "fewest_nodes" (defArgs s_fewest_nodes) (defBody s_fewest_nodes) (defScope s_fewest_nodes) .none kV14 dc14 pm14 an14 cd14 ct14),
    f15,
    (PySem.W.fnOf "best_next" "best_next" (defArgs s_best_next) (defBody s_best_next) (defScope s_best_next) .none kV15 dc15 pm15 an15 cd15 ct15),
    f16,
    (PySem.W.fnOf "best_order" "best_order" (defArgs s_best_order) (defBody s_best_order) (defScope s_best_order) .none kV16 dc16 pm16 an16 cd16 ct16),
    f17,
    (PySem.W.fnOf "with_length" "with_length" (defArgs s_with_length) (defBody s_with_length) (defScope s_with_length) .none kV17 dc17 pm17 an17 cd17 ct17),
    f18,
    (PySem.W.fnOf "call_const" "call_const" (defArgs s_call_const) (defBody s_call_const) (defScope s_call_const) .none kV18 dc18 pm18 an18 cd18 ct18),
    f19,
    (PySem.W.fnOf "call_var" "call_var" (defArgs s_call_var) (defBody s_call_var) (defScope s_call_var) .none kV19 dc19 pm19 an19 cd19 ct19),
    f20,
    (PySem.W.fnOf "call_not" "call_not" (defArgs s_call_not) (defBody s_call_not) (defScope s_call_not) .none kV20 dc20 pm20 an20 cd20 ct20),
    f21,
    (PySem.W.fnOf "call_two" "call_two" (defArgs s_call_two) (defBody s_call_two) (defScope s_call_two) .none kV21 dc21 pm21 an21 cd21 ct21),
    f22,
    (PySem.W.fnOf "call_choose" "call_choose" (defArgs s_call_choose) (defBody s_call_choose) (defScope s_call_choose) .none kV22 dc22 pm22 an22 cd22 ct22),
    f23,
    (PySem.W.fnOf "call_fix" "call_fix" (defArgs s_call_fix) (defBody s_call_fix) (defScope s_call_fix) .none kV23 dc23 pm23 an23 cd23 ct23),
    f24,
    (PySem.W.fnOf "both_fixed" "both_fixed" (defArgs s_both_fixed) (defBody s_both_fixed) (defScope s_both_fixed) .none kV24 dc24 pm24 an24 cd24 ct24),
    f25,
    (PySem.W.fnOf "call_some" "call_some" (defArgs s_call_some) (defBody s_call_some) (defScope s_call_some) .none kV25 dc25 pm25 an25 cd25 ct25),
    f26,
    (PySem.W.fnOf "call_all" "call_all" (defArgs s_call_all) (defBody s_call_all) (defScope s_call_all) .none kV26 dc26 pm26 an26 cd26 ct26),
    f27,
    (PySem.W.fnOf "call_put" "call_put" (defArgs s_call_put) (defBody s_call_put) (defScope s_call_put) .none kV27 dc27 pm27 an27 cd27 ct27),
    f28,
    (PySem.W.fnOf "call_value" "call_value" (defArgs s_call_value) (defBody s_call_value) (defScope s_call_value) .none kV28 dc28 pm28 an28 cd28 ct28),
    f29,
    (PySem.W.fnOf "call_count" "call_count" (defArgs s_call_count) (defBody s_call_count) (defScope s_call_count) .none kV29 dc29 pm29 an29 cd29 ct29),
    f30,
    (PySem.W.fnOf "call_first" "call_first" (defArgs s_call_first) (defBody s_call_first) (defScope s_call_first) .none kV30 dc30 pm30 an30 cd30 ct30),
    f31,
    (PySem.W.fnOf "call_matters" "call_matters" (defArgs s_call_matters) (defBody s_call_matters) (defScope s_call_matters) .none kV31 dc31 pm31 an31 cd31 ct31),
    f32,
    (PySem.W.fnOf "call_diagram" "call_diagram" (defArgs s_call_diagram) (defBody s_call_diagram) (defScope s_call_diagram) .none kV32 dc32 pm32 an32 cd32 ct32),
    f33,
    (PySem.W.fnOf "call_best" "call_best" (defArgs s_call_best) (defBody s_call_best) (defScope s_call_best) .none kV33 dc33 pm33 an33 cd33 ct33),
    f34,
    (PySem.W.fnOf "call_within" "call_within" (defArgs s_call_within) (defBody s_call_within) (defScope s_call_within) .none kV34 dc34 pm34 an34 cd34 ct34),
    f35,
    (PySem.W.fnOf "answer_of" "answer_of" (defArgs s_answer_of) (defBody s_answer_of) (defScope s_answer_of) .none kV35 dc35 pm35 an35 cd35 ct35),
    f36,
    (PySem.W.fnOf "answers" "answers" (defArgs s_answers) (defBody s_answers) (defScope s_answers) .none kV36 dc36 pm36 an36 cd36 ct36),
    f37,
    (PySem.W.fnOf "__init__" "Cases.__init__" (defArgs s_Cases_init) (defBody s_Cases_init) (defScope s_Cases_init) .none kV37 dc37 pm37 an37 cd37 ct37),
    f38,
    (PySem.W.fnOf "opposite" "Cases.opposite" (defArgs s_Cases_opposite) (defBody s_Cases_opposite) (defScope s_Cases_opposite) .none kV38 dc38 pm38 an38 cd38 ct38),
    f39,
    (PySem.W.fnOf "constant" "Cases.constant" (defArgs s_Cases_constant) (defBody s_Cases_constant) (defScope s_Cases_constant) .none kV39 dc39 pm39 an39 cd39 ct39),
    f40,
    (PySem.W.fnOf "where" "Cases.where" (defArgs s_Cases_where) (defBody s_Cases_where) (defScope s_Cases_where) .none kV40 dc40 pm40 an40 cd40 ct40),
    f41,
    (PySem.W.fnOf "combined" "Cases.combined" (defArgs s_Cases_combined) (defBody s_Cases_combined) (defScope s_Cases_combined) .none kV41 dc41 pm41 an41 cd41 ct41),
    f42,
    (PySem.W.fnOf "chosen" "Cases.chosen" (defArgs s_Cases_chosen) (defBody s_Cases_chosen) (defScope s_Cases_chosen) .none kV42 dc42 pm42 an42 cd42 ct42),
    f43,
    (PySem.W.fnOf "fixed" "Cases.fixed" (defArgs s_Cases_fixed) (defBody s_Cases_fixed) (defScope s_Cases_fixed) .none kV43 dc43 pm43 an43 cd43 ct43),
    f44,
    (PySem.W.fnOf "composed" "Cases.composed" (defArgs s_Cases_composed) (defBody s_Cases_composed) (defScope s_Cases_composed) .none kV44 dc44 pm44 an44 cd44 ct44),
    f45,
    (PySem.W.fnOf "matters_to" "Cases.matters_to" (defArgs s_Cases_matters_to) (defBody s_Cases_matters_to) (defScope s_Cases_matters_to) .none kV45 dc45 pm45 an45 cd45 ct45),
    f46,
    (PySem.W.fnOf "mattering" "Cases.mattering" (defArgs s_Cases_mattering) (defBody s_Cases_mattering) (defScope s_Cases_mattering) .none kV46 dc46 pm46 an46 cd46 ct46),
    f47,
    (PySem.W.fnOf "how_many" "Cases.how_many" (defArgs s_Cases_how_many) (defBody s_Cases_how_many) (defScope s_Cases_how_many) .none kV47 dc47 pm47 an47 cd47 ct47),
    f48,
    (PySem.W.fnOf "__init__" "Diagram.__init__" (defArgs s_Diagram_init) (defBody s_Diagram_init) (defScope s_Diagram_init) .none kV48 dc48 pm48 an48 cd48 ct48),
    f49,
    (PySem.W.fnOf "place_of" "Diagram.place_of" (defArgs s_Diagram_place_of) (defBody s_Diagram_place_of) (defScope s_Diagram_place_of) .none kV49 dc49 pm49 an49 cd49 ct49),
    f50,
    (PySem.W.fnOf "node_numbers" "Diagram.node_numbers" (defArgs s_Diagram_node_numbers) (defBody s_Diagram_node_numbers) (defScope s_Diagram_node_numbers) .none kV50 dc50 pm50 an50 cd50 ct50),
    f51,
    (PySem.W.fnOf "__init__" "CallReader.__init__" (defArgs s_CallReader_init) (defBody s_CallReader_init) (defScope s_CallReader_init) .none kV51 dc51 pm51 an51 cd51 ct51),
    f52,
    (PySem.W.fnOf "has_more" "CallReader.has_more" (defArgs s_CallReader_has_more) (defBody s_CallReader_has_more) (defScope s_CallReader_has_more) .none kV52 dc52 pm52 an52 cd52 ct52),
    f53,
    (PySem.W.fnOf "taken" "CallReader.taken" (defArgs s_CallReader_taken) (defBody s_CallReader_taken) (defScope s_CallReader_taken) .none kV53 dc53 pm53 an53 cd53 ct53),
    f54,
    (PySem.W.fnOf "taken_call" "CallReader.taken_call" (defArgs s_CallReader_taken_call) (defBody s_CallReader_taken_call) (defScope s_CallReader_taken_call) .none kV54 dc54 pm54 an54 cd54 ct54),
    f55,
    (PySem.W.fnOf "__init__" "State.__init__" (defArgs s_State_init) (defBody s_State_init) (defScope s_State_init) .none kV55 dc55 pm55 an55 cd55 ct55),
    f56,
    (PySem.W.fnOf "keep" "State.keep" (defArgs s_State_keep) (defBody s_State_keep) (defScope s_State_keep) .none kV56 dc56 pm56 an56 cd56 ct56),
    f57,
    (PySem.W.fnOf "__init__" "Refusal.__init__" (defArgs s_Refusal_init) (defBody s_Refusal_init) (defScope s_Refusal_init) .none kV57 dc57 pm57 an57 cd57 ct57),
    f58,
    (PySem.W.fnOf "__init__" "OutOfRange.__init__" (defArgs s_OutOfRange_init) (defBody s_OutOfRange_init) (defScope s_OutOfRange_init) .none kV58 dc58 pm58 an58 cd58 ct58),
    f59,
    (PySem.W.fnOf "__init__" "NoCase.__init__" (defArgs s_NoCase_init) (defBody s_NoCase_init) (defScope s_NoCase_init) .none kV59 dc59 pm59 an59 cd59 ct59),
    f60,
    (PySem.W.fnOf "__init__" "TooManyMatter.__init__" (defArgs s_TooManyMatter_init) (defBody s_TooManyMatter_init) (defScope s_TooManyMatter_init) .none kV60 dc60 pm60 an60 cd60 ct60),
    cCases,
    cRefusal,
    cOutOfRange,
    cNoCase,
    cTooManyMatter,
    cDiagram,
    cCallReader,
    cState,
    tP,
    tC,
    kB,
    pB⟩, ⟨?_,
    ?_,
    ?_,
    ?_,
    ?_,
    ?_,
    ?_,
    ?_,
    ?_,
    ?_,
    ?_,
    ?_,
    ?_,
    ?_,
    ?_,
    ?_,
    ?_,
    ?_,
    ?_,
    ?_,
    ?_,
    ?_,
    ?_,
    ?_,
    ?_,
    ?_,
    ?_,
    ?_,
    ?_,
    ?_,
    ?_,
    ?_,
    ?_,
    ?_,
    ?_,
    ?_,
    ?_,
    ?_,
    ?_,
    ?_,
    ?_,
    ?_,
    ?_,
    ?_,
    ?_,
    ?_,
    ?_,
    ?_,
    ?_,
    ?_,
    ?_,
    ?_,
    ?_,
    ?_,
    ?_,
    ?_,
    ?_,
    ?_,
    ?_,
    ?_,
    ?_,
    ?_,
    ?_,
    ?_,
    ?_,
    ?_,
    ?_,
    ?_,
    ?_,
    ?_,
    ?_,
    ?_,
    ?_,
    ?_,
    ?_,
    ?_,
    ?_,
    ?_,
    ?_,
    ?_,
    ?_,
    ?_,
    ?_,
    ?_,
    ?_,
    ?_,
    ?_,
    ?_,
    ?_,
    ?_,
    ?_,
    ?_,
    ?_,
    ?_,
    ?_,
    ?_,
    ?_,
    ?_,
    ?_,
    ?_,
    ?_,
    ?_,
    ?_,
    ?_,
    ?_,
    ?_,
    ?_,
    ?_,
    ?_,
    ?_,
    ?_,
    ?_,
    ?_,
    ?_,
    ?_,
    ?_,
    ?_,
    ?_,
    ?_,
    ?_,
    ?_⟩, rfl⟩
  · exact ⟨PySem.W.mg_of X G a1, fun_mk (st := s_variable_function) l1 c1 k1, Fun.binds (fun_mk (st := s_variable_function) l1 c1 k1) (ps := ["variable"]) fun _ _ _ _ _ _ us hl => match us, hl with | [_], _ => rfl⟩
  · exact ⟨PySem.W.mg_of X G a2, fun_mk (st := s_least_case) l2 c2 k2, Fun.binds (fun_mk (st := s_least_case) l2 c2 k2) (ps := ["function", "start"]) fun _ _ _ _ _ _ us hl => match us, hl with | [_, _], _ => rfl⟩
  · exact ⟨PySem.W.mg_of X G a3, fun_mk (st := s_says) l3 c3 k3, Fun.binds (fun_mk (st := s_says) l3 c3 k3) (ps := ["function", "case"]) fun _ _ _ _ _ _ us hl => match us, hl with | [_, _], _ => rfl⟩
  · exact ⟨PySem.W.mg_of X G a4, fun_mk (st := s_check_below) l4 c4 k4, Fun.binds (fun_mk (st := s_check_below) l4 c4 k4) (ps := ["number", "limit"]) fun _ _ _ _ _ _ us hl => match us, hl with | [_, _], _ => rfl⟩
  · exact ⟨PySem.W.mg_of X G a5, fun_mk (st := s_check_registers) l5 c5 k5, Fun.binds (fun_mk (st := s_check_registers) l5 c5 k5) (ps := ["numbers"]) fun _ _ _ _ _ _ us hl => match us, hl with | [_], _ => rfl⟩
  · exact ⟨PySem.W.mg_of X G a6, fun_mk (st := s_check_variable) l6 c6 k6, Fun.binds (fun_mk (st := s_check_variable) l6 c6 k6) (ps := ["number"]) fun _ _ _ _ _ _ us hl => match us, hl with | [_], _ => rfl⟩
  · exact ⟨PySem.W.mg_of X G a7, fun_mk (st := s_check_yes_or_no) l7 c7 k7, Fun.binds (fun_mk (st := s_check_yes_or_no) l7 c7 k7) (ps := ["number"]) fun _ _ _ _ _ _ us hl => match us, hl with | [_], _ => rfl⟩
  · exact ⟨PySem.W.mg_of X G a8, fun_mk (st := s_is_order) l8 c8 k8, Fun.binds (fun_mk (st := s_is_order) l8 c8 k8) (ps := ["numbers"]) fun _ _ _ _ _ _ us hl => match us, hl with | [_], _ => rfl⟩
  · exact ⟨PySem.W.mg_of X G a9, fun_mk (st := s_fixed_parts) l9 c9 k9, Fun.binds (fun_mk (st := s_fixed_parts) l9 c9 k9) (ps := ["cases", "parts", "variable"]) fun _ _ _ _ _ _ us hl => match us, hl with | [_, _, _], _ => rfl⟩
  · exact ⟨PySem.W.mg_of X G a10, fun_mk (st := s_parts_by_done) l10 c10 k10, Fun.binds (fun_mk (st := s_parts_by_done) l10 c10 k10) (ps := ["cases", "function", "variables"]) fun _ _ _ _ _ _ us hl => match us, hl with | [_, _, _], _ => rfl⟩
  · exact ⟨PySem.W.mg_of X G a11, fun_mk (st := s_nodes_next) l11 c11 k11, Fun.binds (fun_mk (st := s_nodes_next) l11 c11 k11) (ps := ["cases", "parts", "variable"]) fun _ _ _ _ _ _ us hl => match us, hl with | [_, _, _], _ => rfl⟩
  · exact ⟨PySem.W.mg_of X G a12, fun_mk (st := s_places_left) l12 c12 k12, Fun.binds (fun_mk (st := s_places_left) l12 c12 k12) (ps := ["done", "length"]) fun _ _ _ _ _ _ us hl => match us, hl with | [_, _], _ => rfl⟩
  · exact ⟨PySem.W.mg_of X G a13, fun_mk (st := s_nodes_through) l13 c13 k13, Fun.binds (fun_mk (st := s_nodes_through) l13 c13 k13) (ps := ["next_nodes", "fewest", "done", "place"]) fun _ _ _ _ _ _ us hl => match us, hl with | [_, _, _, _], _ => rfl⟩
  · exact ⟨PySem.W.mg_of X G a14, fun_mk (st := s_fewest_nodes) l14 c14 k14, Fun.binds (fun_mk (st := s_fewest_nodes) l14 c14 k14) (ps := ["next_nodes", "length"]) fun _ _ _ _ _ _ us hl => match us, hl with | [_, _], _ => rfl⟩
  · exact ⟨PySem.W.mg_of X G a15, fun_mk (st := s_best_next) l15 c15 k15, Fun.binds (fun_mk (st := s_best_next) l15 c15 k15) (ps := ["next_nodes", "fewest", "done", "length"]) fun _ _ _ _ _ _ us hl => match us, hl with | [_, _, _, _], _ => rfl⟩
  · exact ⟨PySem.W.mg_of X G a16, fun_mk (st := s_best_order) l16 c16 k16, Fun.binds (fun_mk (st := s_best_order) l16 c16 k16) (ps := ["cases", "function", "variables"]) fun _ _ _ _ _ _ us hl => match us, hl with | [_, _, _], _ => rfl⟩
  · exact ⟨PySem.W.mg_of X G a17, fun_mk (st := s_with_length) l17 c17 k17, Fun.binds (fun_mk (st := s_with_length) l17 c17 k17) (ps := ["numbers"]) fun _ _ _ _ _ _ us hl => match us, hl with | [_], _ => rfl⟩
  · exact ⟨PySem.W.mg_of X G a18, fun_mk (st := s_call_const) l18 c18 k18, Fun.binds (fun_mk (st := s_call_const) l18 c18 k18) (ps := ["state", "given"]) fun _ _ _ _ _ _ us hl => match us, hl with | [_, _], _ => rfl⟩
  · exact ⟨PySem.W.mg_of X G a19, fun_mk (st := s_call_var) l19 c19 k19, Fun.binds (fun_mk (st := s_call_var) l19 c19 k19) (ps := ["state", "given"]) fun _ _ _ _ _ _ us hl => match us, hl with | [_, _], _ => rfl⟩
  · exact ⟨PySem.W.mg_of X G a20, fun_mk (st := s_call_not) l20 c20 k20, Fun.binds (fun_mk (st := s_call_not) l20 c20 k20) (ps := ["state", "given"]) fun _ _ _ _ _ _ us hl => match us, hl with | [_, _], _ => rfl⟩
  · exact ⟨PySem.W.mg_of X G a21, fun_mk (st := s_call_two) l21 c21 k21, Fun.binds (fun_mk (st := s_call_two) l21 c21 k21) (ps := ["state", "given"]) fun _ _ _ _ _ _ us hl => match us, hl with | [_, _], _ => rfl⟩
  · exact ⟨PySem.W.mg_of X G a22, fun_mk (st := s_call_choose) l22 c22 k22, Fun.binds (fun_mk (st := s_call_choose) l22 c22 k22) (ps := ["state", "given"]) fun _ _ _ _ _ _ us hl => match us, hl with | [_, _], _ => rfl⟩
  · exact ⟨PySem.W.mg_of X G a23, fun_mk (st := s_call_fix) l23 c23 k23, Fun.binds (fun_mk (st := s_call_fix) l23 c23 k23) (ps := ["state", "given"]) fun _ _ _ _ _ _ us hl => match us, hl with | [_, _], _ => rfl⟩
  · exact ⟨PySem.W.mg_of X G a24, fun_mk (st := s_both_fixed) l24 c24 k24, Fun.binds (fun_mk (st := s_both_fixed) l24 c24 k24) (ps := ["state", "a", "v"]) fun _ _ _ _ _ _ us hl => match us, hl with | [_, _, _], _ => rfl⟩
  · exact ⟨PySem.W.mg_of X G a25, fun_mk (st := s_call_some) l25 c25 k25, Fun.binds (fun_mk (st := s_call_some) l25 c25 k25) (ps := ["state", "given"]) fun _ _ _ _ _ _ us hl => match us, hl with | [_, _], _ => rfl⟩
  · exact ⟨PySem.W.mg_of X G a26, fun_mk (st := s_call_all) l26 c26 k26, Fun.binds (fun_mk (st := s_call_all) l26 c26 k26) (ps := ["state", "given"]) fun _ _ _ _ _ _ us hl => match us, hl with | [_, _], _ => rfl⟩
  · exact ⟨PySem.W.mg_of X G a27, fun_mk (st := s_call_put) l27 c27 k27, Fun.binds (fun_mk (st := s_call_put) l27 c27 k27) (ps := ["state", "given"]) fun _ _ _ _ _ _ us hl => match us, hl with | [_, _], _ => rfl⟩
  · exact ⟨PySem.W.mg_of X G a28, fun_mk (st := s_call_value) l28 c28 k28, Fun.binds (fun_mk (st := s_call_value) l28 c28 k28) (ps := ["state", "given"]) fun _ _ _ _ _ _ us hl => match us, hl with | [_, _], _ => rfl⟩
  · exact ⟨PySem.W.mg_of X G a29, fun_mk (st := s_call_count) l29 c29 k29, Fun.binds (fun_mk (st := s_call_count) l29 c29 k29) (ps := ["state", "given"]) fun _ _ _ _ _ _ us hl => match us, hl with | [_, _], _ => rfl⟩
  · exact ⟨PySem.W.mg_of X G a30, fun_mk (st := s_call_first) l30 c30 k30, Fun.binds (fun_mk (st := s_call_first) l30 c30 k30) (ps := ["state", "given"]) fun _ _ _ _ _ _ us hl => match us, hl with | [_, _], _ => rfl⟩
  · exact ⟨PySem.W.mg_of X G a31, fun_mk (st := s_call_matters) l31 c31 k31, Fun.binds (fun_mk (st := s_call_matters) l31 c31 k31) (ps := ["state", "given"]) fun _ _ _ _ _ _ us hl => match us, hl with | [_, _], _ => rfl⟩
  · exact ⟨PySem.W.mg_of X G a32, fun_mk (st := s_call_diagram) l32 c32 k32, Fun.binds (fun_mk (st := s_call_diagram) l32 c32 k32) (ps := ["state", "given"]) fun _ _ _ _ _ _ us hl => match us, hl with | [_, _], _ => rfl⟩
  · exact ⟨PySem.W.mg_of X G a33, fun_mk (st := s_call_best) l33 c33 k33, Fun.binds (fun_mk (st := s_call_best) l33 c33 k33) (ps := ["state", "given"]) fun _ _ _ _ _ _ us hl => match us, hl with | [_, _], _ => rfl⟩
  · exact ⟨PySem.W.mg_of X G a34, fun_mk (st := s_call_within) l34 c34 k34, Fun.binds (fun_mk (st := s_call_within) l34 c34 k34) (ps := ["state", "given"]) fun _ _ _ _ _ _ us hl => match us, hl with | [_, _], _ => rfl⟩
  · exact ⟨PySem.W.mg_of X G a35, fun_mk (st := s_answer_of) l35 c35 k35, Fun.binds (fun_mk (st := s_answer_of) l35 c35 k35) (ps := ["state", "number", "given"]) fun _ _ _ _ _ _ us hl => match us, hl with | [_, _, _], _ => rfl⟩
  · exact ⟨PySem.W.mg_of X G a36, fun_mk (st := s_answers) l36 c36 k36, Fun.binds (fun_mk (st := s_answers) l36 c36 k36) (ps := ["calls"]) fun _ _ _ _ _ _ us hl => match us, hl with | [_], _ => rfl⟩
  · exact fun_mk (st := s_Cases_init) l37 c37 k37
  · exact Fun.binds (fun_mk (st := s_Cases_init) l37 c37 k37) (ps := ["self"]) fun _ _ _ _ _ _ us hl => match us, hl with | [_], _ => rfl
  · exact ⟨⟨a38, i38, k38⟩, fun_mk (st := s_Cases_opposite) l38 c38 k38, Fun.binds (fun_mk (st := s_Cases_opposite) l38 c38 k38) (ps := ["self", "function"]) fun _ _ _ _ _ _ us hl => match us, hl with | [_, _], _ => rfl⟩
  · exact ⟨⟨a39, i39, k39⟩, fun_mk (st := s_Cases_constant) l39 c39 k39, Fun.binds (fun_mk (st := s_Cases_constant) l39 c39 k39) (ps := ["self", "z"]) fun _ _ _ _ _ _ us hl => match us, hl with | [_, _], _ => rfl⟩
  · exact ⟨⟨a40, i40, k40⟩, fun_mk (st := s_Cases_where) l40 c40 k40, Fun.binds (fun_mk (st := s_Cases_where) l40 c40 k40) (ps := ["self", "function", "z"]) fun _ _ _ _ _ _ us hl => match us, hl with | [_, _, _], _ => rfl⟩
  · exact ⟨⟨a41, i41, k41⟩, fun_mk (st := s_Cases_combined) l41 c41 k41, Fun.binds (fun_mk (st := s_Cases_combined) l41 c41 k41) (ps := ["self", "op", "left", "right"]) fun _ _ _ _ _ _ us hl => match us, hl with | [_, _, _, _], _ => rfl⟩
  · exact ⟨⟨a42, i42, k42⟩, fun_mk (st := s_Cases_chosen) l42 c42 k42, Fun.binds (fun_mk (st := s_Cases_chosen) l42 c42 k42) (ps := ["self", "condition", "then", "otherwise"]) fun _ _ _ _ _ _ us hl => match us, hl with | [_, _, _, _], _ => rfl⟩
  · exact ⟨⟨a43, i43, k43⟩, fun_mk (st := s_Cases_fixed) l43 c43 k43, Fun.binds (fun_mk (st := s_Cases_fixed) l43 c43 k43) (ps := ["self", "function", "variable", "z"]) fun _ _ _ _ _ _ us hl => match us, hl with | [_, _, _, _], _ => rfl⟩
  · exact ⟨⟨a44, i44, k44⟩, fun_mk (st := s_Cases_composed) l44 c44 k44, Fun.binds (fun_mk (st := s_Cases_composed) l44 c44 k44) (ps := ["self", "function", "variable", "inner"]) fun _ _ _ _ _ _ us hl => match us, hl with | [_, _, _, _], _ => rfl⟩
  · exact ⟨⟨a45, i45, k45⟩, fun_mk (st := s_Cases_matters_to) l45 c45 k45, Fun.binds (fun_mk (st := s_Cases_matters_to) l45 c45 k45) (ps := ["self", "variable", "function"]) fun _ _ _ _ _ _ us hl => match us, hl with | [_, _, _], _ => rfl⟩
  · exact ⟨⟨a46, i46, k46⟩, fun_mk (st := s_Cases_mattering) l46 c46 k46, Fun.binds (fun_mk (st := s_Cases_mattering) l46 c46 k46) (ps := ["self", "function"]) fun _ _ _ _ _ _ us hl => match us, hl with | [_, _], _ => rfl⟩
  · exact ⟨⟨a47, i47, k47⟩, fun_mk (st := s_Cases_how_many) l47 c47 k47, Fun.binds (fun_mk (st := s_Cases_how_many) l47 c47 k47) (ps := ["self", "function"]) fun _ _ _ _ _ _ us hl => match us, hl with | [_, _], _ => rfl⟩
  · exact fun_mk (st := s_Diagram_init) l48 c48 k48
  · exact Fun.binds (fun_mk (st := s_Diagram_init) l48 c48 k48) (ps := ["self", "cases", "order", "function"]) fun _ _ _ _ _ _ us hl => match us, hl with | [_, _, _, _], _ => rfl
  · exact ⟨⟨a49, i49, k49⟩, fun_mk (st := s_Diagram_place_of) l49 c49 k49, Fun.binds (fun_mk (st := s_Diagram_place_of) l49 c49 k49) (ps := ["self", "part", "start"]) fun _ _ _ _ _ _ us hl => match us, hl with | [_, _, _], _ => rfl⟩
  · exact ⟨⟨a50, i50, k50⟩, fun_mk (st := s_Diagram_node_numbers) l50 c50 k50, Fun.binds (fun_mk (st := s_Diagram_node_numbers) l50 c50 k50) (ps := ["self"]) fun _ _ _ _ _ _ us hl => match us, hl with | [_], _ => rfl⟩
  · exact fun_mk (st := s_CallReader_init) l51 c51 k51
  · exact Fun.binds (fun_mk (st := s_CallReader_init) l51 c51 k51) (ps := ["self", "numbers"]) fun _ _ _ _ _ _ us hl => match us, hl with | [_, _], _ => rfl
  · exact ⟨⟨a52, i52, k52⟩, fun_mk (st := s_CallReader_has_more) l52 c52 k52, Fun.binds (fun_mk (st := s_CallReader_has_more) l52 c52 k52) (ps := ["self"]) fun _ _ _ _ _ _ us hl => match us, hl with | [_], _ => rfl⟩
  · exact ⟨⟨a53, i53, k53⟩, fun_mk (st := s_CallReader_taken) l53 c53 k53, Fun.binds (fun_mk (st := s_CallReader_taken) l53 c53 k53) (ps := ["self", "length"]) fun _ _ _ _ _ _ us hl => match us, hl with | [_, _], _ => rfl⟩
  · exact ⟨⟨a54, i54, k54⟩, fun_mk (st := s_CallReader_taken_call) l54 c54 k54, Fun.binds (fun_mk (st := s_CallReader_taken_call) l54 c54 k54) (ps := ["self"]) fun _ _ _ _ _ _ us hl => match us, hl with | [_], _ => rfl⟩
  · exact fun_mk (st := s_State_init) l55 c55 k55
  · exact Fun.binds (fun_mk (st := s_State_init) l55 c55 k55) (ps := ["self"]) fun _ _ _ _ _ _ us hl => match us, hl with | [_], _ => rfl
  · exact ⟨⟨a56, i56, k56⟩, fun_mk (st := s_State_keep) l56 c56 k56, Fun.binds (fun_mk (st := s_State_keep) l56 c56 k56) (ps := ["self", "place", "function"]) fun _ _ _ _ _ _ us hl => match us, hl with | [_, _, _], _ => rfl⟩
  · exact fun_mk (st := s_Refusal_init) l57 c57 k57
  · exact Fun.binds (fun_mk (st := s_Refusal_init) l57 c57 k57) (ps := ["self", "number"]) fun _ _ _ _ _ _ us hl => match us, hl with | [_, _], _ => rfl
  · exact fun_mk (st := s_OutOfRange_init) l58 c58 k58
  · exact Fun.binds (fun_mk (st := s_OutOfRange_init) l58 c58 k58) (ps := ["self"]) fun _ _ _ _ _ _ us hl => match us, hl with | [_], _ => rfl
  · exact fun_mk (st := s_NoCase_init) l59 c59 k59
  · exact Fun.binds (fun_mk (st := s_NoCase_init) l59 c59 k59) (ps := ["self"]) fun _ _ _ _ _ _ us hl => match us, hl with | [_], _ => rfl
  · exact fun_mk (st := s_TooManyMatter_init) l60 c60 k60
  · exact Fun.binds (fun_mk (st := s_TooManyMatter_init) l60 c60 k60) (ps := ["self"]) fun _ _ _ _ _ _ us hl => match us, hl with | [_], _ => rfl
  · exact ⟨pgCases, hdCases, poCases, saCases⟩
  · exact PySem.W.mg_of X G gCases
  · exact ⟨mkCases, a37, i37, kcCases⟩
  · exact noCaseseverywhere
  · exact noCasesyes
  · exact noCasesno
  · exact ⟨pgDiagram, hdDiagram, poDiagram, saDiagram⟩
  · exact PySem.W.mg_of X G gDiagram
  · exact ⟨mkDiagram, a48, i48, kcDiagram⟩
  · exact noDiagramcases
  · exact noDiagramorder
  · exact noDiagramnodes
  · exact noDiagramnode_places
  · exact noDiagrambegins
  · exact ⟨pgCallReader, hdCallReader, poCallReader, saCallReader⟩
  · exact PySem.W.mg_of X G gCallReader
  · exact ⟨mkCallReader, a51, i51, kcCallReader⟩
  · exact noCallReadernumbers
  · exact noCallReaderat
  · exact ⟨pgState, hdState, poState, saState⟩
  · exact PySem.W.mg_of X G gState
  · exact ⟨mkState, a55, i55, kcState⟩
  · exact noStatecases
  · exact noStatefunctions
  · exact ⟨PySem.W.mg_of X G gRefusal, xiRefusal, xoRefusal, xhRefusal, xsRefusal, xgRefusal, xqRefusal, xnRefusal, a57, xtRefusal, xkRefusal, xbRefusal, xyRefusal, exm_at xbRefusal xcRefusal xyRefusal xuRefusal⟩
  · exact ⟨PySem.W.mg_of X G gOutOfRange, xiOutOfRange, xoOutOfRange, xhOutOfRange, xsOutOfRange, xgOutOfRange, xqOutOfRange, xnOutOfRange, a58, xtOutOfRange, xkOutOfRange, xbOutOfRange, xyOutOfRange, exm_at xbRefusal xcRefusal xyRefusal xuOutOfRange⟩
  · exact ⟨PySem.W.mg_of X G gNoCase, xiNoCase, xoNoCase, xhNoCase, xsNoCase, xgNoCase, xqNoCase, xnNoCase, a59, xtNoCase, xkNoCase, xbNoCase, xyNoCase, exm_at xbRefusal xcRefusal xyRefusal xuNoCase⟩
  · exact ⟨PySem.W.mg_of X G gTooManyMatter, xiTooManyMatter, xoTooManyMatter, xhTooManyMatter, xsTooManyMatter, xgTooManyMatter, xqTooManyMatter, xnTooManyMatter, a60, xtTooManyMatter, xkTooManyMatter, xbTooManyMatter, xyTooManyMatter, exm_at xbRefusal xcRefusal xyRefusal xuTooManyMatter⟩
  · exact rR
  · exact gR
  · exact vR
  · exact ⟨_, PySem.W.mg_of X G nVARIABLES⟩
  · exact ⟨_, PySem.W.mg_of X G nCASES⟩
  · exact ⟨_, PySem.W.mg_of X G nNO_EVERYWHERE⟩
  · exact ⟨_, PySem.W.mg_of X G nREGISTERS⟩
  · exact ⟨_, PySem.W.mg_of X G nNO⟩
  · exact ⟨_, PySem.W.mg_of X G nYES⟩
  · exact ⟨_, PySem.W.mg_of X G nFIRST_NODE⟩
  · exact ⟨_, PySem.W.mg_of X G nOPS⟩
  · exact ⟨_, PySem.W.mg_of X G nMOST_MATTERING⟩
  · exact ⟨_, PySem.W.mg_of X G nDIAGRAM⟩
  · exact PySem.W.mg_none_of X G blen
  · exact PySem.W.mg_none_of X G brange
  · exact PySem.W.mg_none_of X G blist
  · exact PySem.W.mg_none_of X G bsorted
  · exact PySem.W.mg_none_of X G bmin
  · exact PySem.W.mg_of X G qP
  · exact PySem.W.mg_of X G qC
  · exact fun H => .inr ⟨_, _, _, zP, rfl, rfl, (by show 16 ≤ sizeLine; decide), .cons ⟨_, rfl⟩ (.cons ⟨_, rfl⟩ (.cons ⟨_, rfl⟩ (.cons ⟨_, rfl⟩ (.cons ⟨_, rfl⟩ (.cons ⟨_, rfl⟩ (.cons ⟨_, rfl⟩ (.cons ⟨_, rfl⟩ (.cons ⟨_, rfl⟩ (.cons ⟨_, rfl⟩ (.cons ⟨_, rfl⟩ (.cons ⟨_, rfl⟩ (.cons ⟨_, rfl⟩ (.cons ⟨_, rfl⟩ (.cons ⟨_, rfl⟩ (.cons ⟨_, rfl⟩ (.nil))))))))))))))))⟩
  · exact fun H => .inr ⟨_, _, _, zC, rfl, rfl, (by show 16 ≤ sizeLine; decide), .cons rfl (.cons rfl (.cons rfl (.cons rfl (.cons rfl (.cons rfl (.cons rfl (.cons rfl (.cons rfl (.cons rfl (.cons rfl (.cons rfl (.cons rfl (.cons rfl (.cons rfl (.cons rfl (.nil))))))))))))))))⟩
  · exact tab_at a15 l15 eB lB vB
  · exact hB
  · exact nB
end Ten
namespace Ten
/-! Functions as numbers of 1,024 bits: the program's operations on them against the specification's. Plain Lean. -/
abbrev Full : Nat := 2 ^ 1024
def EV : Nat := 2 ^ 1024 - 1
theorem EV_bit (m : Nat) : EV.testBit m = decide (m < 1024) := Nat.testBit_two_pow_sub_one 1024 m
theorem EV_lt : EV < Full := Nat.sub_lt (Nat.two_pow_pos 1024) (by decide)
/-- the program's variable_function -/
def vloop : Nat → Nat → Nat → Nat
  | 0, p, _ => p
  | n + 1, p, w => if w < 1024 then vloop n (p ||| (p <<< w)) (2 * w) else p
def vfun (v : Nat) : Nat := vloop 11 (((1 <<< (1 <<< v)) - 1) <<< (1 <<< v)) (2 * (1 <<< v))
def nfun (v : Nat) : Nat := EV ^^^ vfun v
def fixN (f v : Nat) (z : Bool) : Nat := if z = true then (f &&& vfun v) ||| ((f &&& vfun v) >>> (1 <<< v)) else (f &&& nfun v) ||| ((f &&& nfun v) <<< (1 <<< v))

theorem foldr_bit (g : Nat → Bool) : ∀ (l : List Nat) (i : Nat), (l.foldr (fun (m n : Nat) => 2 * n + (if g m = true then 1 else 0)) 0).testBit i = (l[i]?.map g).getD false
  | [], i => by simp
  | a :: l, 0 => by
    rw [List.foldr_cons, Nat.testBit_zero]
    simp only [List.getElem?_cons_zero, Option.map_some, Option.getD_some]
    by_cases h : g a = true
    · rw [if_pos h, h]
      simp
    · rw [if_neg h]
      have h' : g a = false := by simpa using h
      rw [h']
      simp
  | a :: l, i + 1 => by
    rw [List.foldr_cons, Nat.testBit_add_one, List.getElem?_cons_succ]
    have e : (2 * l.foldr (fun (m n : Nat) => 2 * n + (if g m = true then 1 else 0)) 0 + (if g a = true then 1 else 0)) / 2 = l.foldr (fun (m n : Nat) => 2 * n + (if g m = true then 1 else 0)) 0 := by
      split <;> omega
    rw [e]
    exact foldr_bit g l i
theorem funcBy_bit (g : Nat → Bool) (m : Nat) : (Diag.funcBy g).testBit m = (decide (m < 1024) && g m) := by
  show ((List.range 1024).foldr (fun (m n : Nat) => 2 * n + (if g m = true then 1 else 0)) 0).testBit m = _
  rw [foldr_bit]
  by_cases h : m < 1024
  · rw [List.getElem?_range h, decide_eq_true h]
    simp
  · rw [List.getElem?_eq_none (by simpa using h), decide_eq_false h]
    simp
theorem funcBy_lt (g : Nat → Bool) : Diag.funcBy g < Full := by
  refine Nat.lt_pow_two_of_testBit _ fun i hi => ?_
  rw [funcBy_bit, decide_eq_false (by omega)]
  rfl
/-- two functions with alike values are one -/
theorem f_ext {f g : Nat} (hf : f < Full) (hg : g < Full) (h : ∀ m, m < 1024 → f.testBit m = g.testBit m) : f = g := by
  refine Nat.eq_of_testBit_eq fun m => ?_
  by_cases c : m < 1024
  · exact h m c
  · have e : (2 : Nat) ^ 1024 ≤ 2 ^ m := Nat.pow_le_pow_right (by decide) (by omega)
    rw [Nat.testBit_lt_two_pow (Nat.lt_of_lt_of_le hf e), Nat.testBit_lt_two_pow (Nat.lt_of_lt_of_le hg e)]
theorem bit_out {f m : Nat} (hf : f < Full) (h : 1024 ≤ m) : f.testBit m = false :=
  Nat.testBit_lt_two_pow (Nat.lt_of_lt_of_le hf (Nat.pow_le_pow_right (by decide) h))
theorem eq_funcBy {f : Nat} {g : Nat → Bool} (hf : f < Full) (h : ∀ m, m < 1024 → f.testBit m = g m) : f = Diag.funcBy g :=
  f_ext hf (funcBy_lt g) fun m hm => by rw [funcBy_bit, decide_eq_true hm, h m hm, Bool.true_and]
theorem vfun_var : ∀ v, v < 10 → vfun v = Diag.variable_ v := by decide +kernel
theorem vfun_bit {v m : Nat} (hv : v < 10) : (vfun v).testBit m = (decide (m < 1024) && m.testBit v) := by
  rw [vfun_var v hv]
  exact funcBy_bit _ m
theorem vfun_lt {v : Nat} (hv : v < 10) : vfun v < Full := by
  rw [vfun_var v hv]
  exact funcBy_lt _
theorem nfun_bit {v m : Nat} (hv : v < 10) : (nfun v).testBit m = (decide (m < 1024) && !m.testBit v) := by
  unfold nfun
  rw [Nat.testBit_xor, EV_bit, vfun_bit hv]
  cases decide (m < 1024) <;> cases m.testBit v <;> rfl
theorem nfun_lt {v : Nat} (hv : v < 10) : nfun v < Full := Nat.xor_lt_two_pow EV_lt (vfun_lt hv)

/-! ### a case with a variable set -/
theorem add_bit : ∀ (v m u : Nat), m.testBit v = false → (m + 2 ^ v).testBit u = if u = v then true else m.testBit u
  | 0, m, 0, h => by
    rw [Nat.testBit_zero] at h ⊢
    have := of_decide_eq_false h
    rw [if_pos rfl]
    simp
    omega
  | 0, m, u + 1, h => by
    rw [Nat.testBit_zero] at h
    have := of_decide_eq_false h
    rw [if_neg (by omega), Nat.testBit_add_one, Nat.testBit_add_one]
    have e : (m + 2 ^ 0) / 2 = m / 2 := by
      show (m + 1) / 2 = m / 2
      omega
    rw [e]
  | v + 1, m, 0, h => by
    rw [if_neg (by omega), Nat.testBit_zero, Nat.testBit_zero, Nat.pow_succ]
    congr 1
    rw [Nat.add_mul_mod_self_right]
  | v + 1, m, u + 1, h => by
    rw [Nat.testBit_add_one] at h
    have ih := add_bit v (m / 2) u h
    have e : (m + 2 ^ (v + 1)) / 2 = m / 2 + 2 ^ v := by
      rw [Nat.pow_succ, Nat.add_mul_div_right _ _ (by decide)]
    rw [Nat.testBit_add_one, e, ih, Nat.testBit_add_one]
    by_cases c : u = v
    · rw [if_pos c, if_pos (by omega)]
    · rw [if_neg c, if_neg (by omega)]
theorem sub_bit {v m : Nat} (h : m.testBit v = true) (u : Nat) : (m - 2 ^ v).testBit u = if u = v then false else m.testBit u := by
  have hle : 2 ^ v ≤ m := Nat.ge_two_pow_of_testBit h
  have e0 : m = 2 ^ v + (m - 2 ^ v) := by omega
  have h0 : (m - 2 ^ v).testBit v = false := by
    have q := Nat.testBit_two_pow_add_eq (m - 2 ^ v) v
    rw [← e0, h] at q
    simpa using q.symm
  by_cases c : u = v
  · rw [if_pos c, c, h0]
  · rw [if_neg c]
    have q := add_bit v (m - 2 ^ v) u h0
    rw [if_neg c, show m - 2 ^ v + 2 ^ v = m by omega] at q
    exact q.symm
theorem setVar_bit (m v u : Nat) (z : Bool) : (Diag.setVar m v z).testBit u = if u = v then z else m.testBit u := by
  unfold Diag.setVar
  by_cases h : m.testBit v = z
  · rw [if_pos h]
    by_cases c : u = v
    · rw [if_pos c, c, h]
    · rw [if_neg c]
  · rw [if_neg h]
    cases z with
    | true =>
      rw [if_pos rfl]
      have h' : m.testBit v = false := by simpa using h
      exact add_bit v m u h'
    | false =>
      rw [if_neg (by decide)]
      have h' : m.testBit v = true := by simpa using h
      exact sub_bit h' u
theorem setVar_lt {m v : Nat} (z : Bool) (hm : m < 1024) (hv : v < 10) : Diag.setVar m v z < 1024 := by
  refine Nat.lt_pow_two_of_testBit (n := 10) _ fun i hi => ?_
  rw [setVar_bit, if_neg (by omega)]
  exact Nat.testBit_lt_two_pow (Nat.lt_of_lt_of_le (show m < 2 ^ 10 from hm) (Nat.pow_le_pow_right (by decide) hi))
theorem setVar_same {m v : Nat} {z : Bool} (h : m.testBit v = z) : Diag.setVar m v z = m := if_pos h
theorem setVar_comm (m : Nat) {u v : Nat} (a b : Bool) (h : u ≠ v) : Diag.setVar (Diag.setVar m u a) v b = Diag.setVar (Diag.setVar m v b) u a :=
  Nat.eq_of_testBit_eq fun i => by
    rw [setVar_bit, setVar_bit, setVar_bit, setVar_bit]
    by_cases h1 : i = v
    · rw [if_pos h1, if_neg (by omega), if_pos h1]
    · rw [if_neg h1, if_neg h1]
theorem setVar_twice (m v : Nat) (a b : Bool) : Diag.setVar (Diag.setVar m v a) v b = Diag.setVar m v b :=
  Nat.eq_of_testBit_eq fun i => by
    rw [setVar_bit, setVar_bit, setVar_bit]
    by_cases h1 : i = v
    · rw [if_pos h1, if_pos h1]
    · rw [if_neg h1, if_neg h1, if_neg h1]
theorem fixed_bit {f v : Nat} {z : Bool} {m : Nat} (hm : m < 1024) : (Diag.fixed f v z).testBit m = f.testBit (Diag.setVar m v z) := by
  unfold Diag.fixed
  rw [funcBy_bit, decide_eq_true hm, Bool.true_and]
  rfl
theorem fixN_lt {f v : Nat} (z : Bool) (hf : f < Full) (hv : v < 10) : fixN f v z < Full := by
  unfold fixN
  cases z with
  | true =>
    rw [if_pos rfl]
    have h := Nat.and_lt_two_pow f (vfun_lt hv)
    exact Nat.or_lt_two_pow h (Nat.lt_of_le_of_lt (Nat.shiftRight_le _ _) h)
  | false =>
    rw [if_neg (by decide)]
    refine Nat.lt_pow_two_of_testBit _ fun i hi => ?_
    rw [Nat.testBit_or, Nat.testBit_shiftLeft, Nat.testBit_and, Nat.testBit_and, bit_out hf hi, Bool.false_and, Bool.false_or]
    by_cases c : i ≥ 1 <<< v
    · rw [decide_eq_true c, Bool.true_and]
      by_cases d : i - 1 <<< v < 1024
      · rw [nfun_bit hv, decide_eq_true d, Bool.true_and]
        have e : i = 2 ^ v + (i - 1 <<< v) := by
          rw [Nat.one_shiftLeft] at c ⊢
          omega
        have hb : i.testBit v = false ∨ (i - 1 <<< v).testBit v = true := by
          cases hh : (i - 1 <<< v).testBit v with
          | true => exact .inr rfl
          | false =>
            exfalso
            -- then i is the case with v set, below 1024
            have s := setVar_lt (m := i - 1 <<< v) true d hv
            unfold Diag.setVar at s
            rw [if_neg (by rw [hh]; decide), if_pos rfl] at s
            omega
        rcases hb with hb | hb
        · have q := Nat.testBit_two_pow_add_eq (i - 1 <<< v) v
          rw [← e, hb] at q
          have q' : (i - 1 <<< v).testBit v = true := by simpa using q.symm
          rw [q']
          simp
        · rw [hb]
          simp
      · rw [bit_out hf (by omega), Bool.false_and]
    · rw [decide_eq_false c, Bool.false_and]
theorem fixN_eq {f v : Nat} (z : Bool) (hf : f < Full) (hv : v < 10) : fixN f v z = Diag.fixed f v z := by
  refine f_ext (fixN_lt z hf hv) (funcBy_lt _) fun m hm => ?_
  rw [fixed_bit hm]
  unfold fixN
  cases z with
  | true =>
    rw [if_pos rfl, Nat.testBit_or, Nat.testBit_shiftRight, Nat.testBit_and, Nat.testBit_and, vfun_bit hv, vfun_bit hv, decide_eq_true hm, Bool.true_and, Nat.one_shiftLeft]
    cases hb : m.testBit v with
    | true =>
      rw [setVar_same hb, Nat.testBit_two_pow_add_eq, hb]
      simp
    | false =>
      have s : Diag.setVar m v true = m + 2 ^ v := by
        unfold Diag.setVar
        rw [if_neg (by rw [hb]; decide), if_pos rfl]
      rw [s, Nat.testBit_two_pow_add_eq, hb, Nat.add_comm m]
      by_cases d : 2 ^ v + m < 1024
      · rw [decide_eq_true d]
        simp
      · rw [bit_out hf (show 1024 ≤ 2 ^ v + m by omega)]
        simp
  | false =>
    rw [if_neg (by decide), Nat.testBit_or, Nat.testBit_shiftLeft, Nat.testBit_and, Nat.testBit_and, nfun_bit hv, nfun_bit hv, decide_eq_true hm, Bool.true_and, Nat.one_shiftLeft]
    cases hb : m.testBit v with
    | false =>
      rw [setVar_same hb]
      by_cases c : m ≥ 2 ^ v
      · have e : m = 2 ^ v + (m - 2 ^ v) := by omega
        have q := Nat.testBit_two_pow_add_eq (m - 2 ^ v) v
        rw [← e, hb] at q
        have q' : (m - 2 ^ v).testBit v = true := by simpa using q.symm
        rw [q']
        simp
      · rw [decide_eq_false c]
        simp
    | true =>
      have c : m ≥ 2 ^ v := Nat.ge_two_pow_of_testBit hb
      have s : Diag.setVar m v false = m - 2 ^ v := by
        unfold Diag.setVar
        rw [if_neg (by rw [hb]; decide), if_neg (by decide)]
      have q : (m - 2 ^ v).testBit v = false := by
        have q := sub_bit hb v
        rw [if_pos rfl] at q
        exact q
      rw [s, decide_eq_true c, q, decide_eq_true (show m - 2 ^ v < 1024 from Nat.lt_of_le_of_lt (Nat.sub_le _ _) hm)]
      simp
end Ten
namespace Ten
/-! The program's joinings of functions against the specification's. -/
theorem bit_bool (b : Bool) (m : Nat) : (if b = true then 1 else 0 : Nat) = 1 ↔ b = true := by cases b <;> simp
def notN (f : Nat) : Nat := EV ^^^ f
theorem notN_lt {f : Nat} (hf : f < Full) : notN f < Full := Nat.xor_lt_two_pow EV_lt hf
theorem notN_bit {f m : Nat} (hm : m < 1024) : (notN f).testBit m = !f.testBit m := by
  unfold notN
  rw [Nat.testBit_xor, EV_bit, decide_eq_true hm]
  cases f.testBit m <;> rfl
theorem const_eq : ∀ z : Bool, Diag.constant z = if z = true then EV else 0 := fun z => by
  refine (eq_funcBy (g := fun _ => z) (f := if z = true then EV else 0) ?_ fun m hm => ?_).symm
  · cases z
    · exact Nat.two_pow_pos 1024
    · exact EV_lt
  · cases z
    · exact Nat.zero_testBit m
    · show EV.testBit m = true
      rw [EV_bit, decide_eq_true hm]
theorem not_eq {f : Nat} (hf : f < Full) : notN f = Diag.negated f := eq_funcBy (notN_lt hf) fun m hm => notN_bit hm
/-- Cases.where -/
def whN (f z : Nat) : Nat := if z = 1 then f else notN f
/-- one turn of Cases.combined -/
def combT (op l r res x y : Nat) : Nat := if (op >>> (2 * x + y)) &&& 1 = 1 then res ||| (whN l x &&& whN r y) else res
def combN (op l r : Nat) : Nat := combT op l r (combT op l r (combT op l r (combT op l r 0 0 0) 0 1) 1 0) 1 1
theorem op_bit (op i : Nat) : (op >>> i) &&& 1 = 1 ↔ op.testBit i = true := by
  rw [Nat.and_one_is_mod, Nat.testBit_eq_decide_div_mod_eq, Nat.shiftRight_eq_div_pow, decide_eq_true_eq]
theorem whN_lt {f z : Nat} (hf : f < Full) : whN f z < Full := by
  unfold whN
  split
  · exact hf
  · exact notN_lt hf
theorem combT_lt {op l r res x y : Nat} (hl : l < Full) (hr : r < Full) (h : res < Full) : combT op l r res x y < Full := by
  unfold combT
  split
  · exact Nat.or_lt_two_pow h (Nat.and_lt_two_pow _ (whN_lt hr))
  · exact h
theorem combT_bit {op l r res x y m : Nat} (hm : m < 1024) : (combT op l r res x y).testBit m = (res.testBit m || (op.testBit (2 * x + y) && (if x = 1 then l.testBit m else !l.testBit m) && (if y = 1 then r.testBit m else !r.testBit m))) := by
  have hw : ∀ f z, (whN f z).testBit m = if z = 1 then f.testBit m else !f.testBit m := fun f z => by
    unfold whN
    split
    · rfl
    · exact notN_bit hm
  unfold combT
  by_cases h : op.testBit (2 * x + y) = true
  · rw [if_pos ((op_bit _ _).mpr h), Nat.testBit_or, Nat.testBit_and, hw, hw, h, Bool.true_and]
  · rw [if_neg fun q => h ((op_bit _ _).mp q)]
    have h' : op.testBit (2 * x + y) = false := by simpa using h
    rw [h', Bool.false_and, Bool.false_and, Bool.or_false]
theorem combN_lt {op l r : Nat} (hl : l < Full) (hr : r < Full) : combN op l r < Full :=
  combT_lt hl hr (combT_lt hl hr (combT_lt hl hr (combT_lt hl hr (Nat.two_pow_pos 1024))))
theorem comb_eq {op l r : Nat} (hl : l < Full) (hr : r < Full) : combN op l r = Diag.joined op l r :=
  eq_funcBy (combN_lt hl hr) fun m hm => by
    unfold combN Diag.value Diag.bitOf
    rw [combT_bit hm, combT_bit hm, combT_bit hm, combT_bit hm, Nat.zero_testBit]
    cases l.testBit m <;> cases r.testBit m <;> simp
def choN (c f g : Nat) : Nat := (c &&& f) ||| (notN c &&& g)
theorem choN_lt {c f g : Nat} (hf : f < Full) (hg : g < Full) : choN c f g < Full := Nat.or_lt_two_pow (Nat.and_lt_two_pow _ hf) (Nat.and_lt_two_pow _ hg)
theorem choN_bit {c f g m : Nat} (hm : m < 1024) : (choN c f g).testBit m = if c.testBit m = true then f.testBit m else g.testBit m := by
  unfold choN
  rw [Nat.testBit_or, Nat.testBit_and, Nat.testBit_and, notN_bit hm]
  cases c.testBit m <;> simp
theorem cho_eq {c f g : Nat} (hf : f < Full) (hg : g < Full) : choN c f g = Diag.chosen c f g := eq_funcBy (choN_lt hf hg) fun m hm => choN_bit hm
theorem fixN_bit {f v m : Nat} (z : Bool) (hf : f < Full) (hv : v < 10) (hm : m < 1024) : (fixN f v z).testBit m = f.testBit (Diag.setVar m v z) := by
  rw [fixN_eq z hf hv]
  exact fixed_bit hm
theorem some_eq {f v : Nat} (hf : f < Full) (hv : v < 10) : fixN f v false ||| fixN f v true = Diag.some_ f v :=
  eq_funcBy (Nat.or_lt_two_pow (fixN_lt _ hf hv) (fixN_lt _ hf hv)) fun m hm => by
    rw [Nat.testBit_or, fixN_bit _ hf hv hm, fixN_bit _ hf hv hm]
    rfl
theorem all_eq {f v : Nat} (hf : f < Full) (hv : v < 10) : fixN f v false &&& fixN f v true = Diag.all_ f v :=
  eq_funcBy (Nat.and_lt_two_pow _ (fixN_lt _ hf hv)) fun m hm => by
    rw [Nat.testBit_and, fixN_bit _ hf hv hm, fixN_bit _ hf hv hm]
    rfl
/-- Cases.composed -/
def putN (f v g : Nat) : Nat := choN g (fixN f v true) (fixN f v false)
theorem putN_lt {f v g : Nat} (hf : f < Full) (hv : v < 10) : putN f v g < Full := choN_lt (fixN_lt _ hf hv) (fixN_lt _ hf hv)
theorem put_eq {f v g : Nat} (hf : f < Full) (hv : v < 10) : putN f v g = Diag.put f v g :=
  eq_funcBy (putN_lt hf hv) fun m hm => by
    unfold putN
    rw [choN_bit hm, fixN_bit _ hf hv hm, fixN_bit _ hf hv hm]
    unfold Diag.value
    cases g.testBit m <;> rfl
/-- Cases.matters_to -/
def hang (f v : Nat) : Bool := decide (fixN f v false ≠ fixN f v true)
def hangs (f : Nat) : List Nat := (List.range 10).filter (hang f)
theorem hang_iff {f v : Nat} (hf : f < Full) (hv : v < 10) : hang f v = true ↔ ∃ m, m < 1024 ∧ f.testBit (Diag.setVar m v false) ≠ f.testBit (Diag.setVar m v true) := by
  unfold hang
  rw [decide_eq_true_eq]
  constructor
  · intro h
    refine Classical.byContradiction fun q => h (f_ext (fixN_lt _ hf hv) (fixN_lt _ hf hv) fun m hm => ?_)
    rw [fixN_bit _ hf hv hm, fixN_bit _ hf hv hm]
    exact Classical.byContradiction fun z => q ⟨m, hm, z⟩
  · rintro ⟨m, hm, h⟩ e
    refine h ?_
    rw [← fixN_bit _ hf hv hm, ← fixN_bit _ hf hv hm, e]
theorem matters_eq {f : Nat} (hf : f < Full) : Diag.matters f = hangs f := by
  unfold Diag.matters hangs
  refine List.filter_congr fun v hv => ?_
  have hv : v < 10 := List.mem_range.mp hv
  rw [Bool.eq_iff_iff, hang_iff hf hv, List.any_eq_true]
  constructor
  · rintro ⟨m, hm, h⟩
    exact ⟨m, List.mem_range.mp hm, by simpa [Diag.value] using h⟩
  · rintro ⟨m, hm, h⟩
    exact ⟨m, List.mem_range.mpr hm, by simpa [Diag.value] using h⟩
/-- says -/
theorem says_eq (f m : Nat) : (f >>> m) &&& 1 = if Diag.value f m = true then 1 else 0 := by
  unfold Diag.value
  by_cases h : f.testBit m = true
  · rw [if_pos h]
    exact (op_bit f m).mpr h
  · rw [if_neg h]
    have q : ¬ (f >>> m) &&& 1 = 1 := fun z => h ((op_bit f m).mp z)
    rw [Nat.and_one_is_mod] at q ⊢
    omega

/-! ### the least case -/
/-- trailing zeros: n = 2 ^ t * odd -/
theorem low_form : ∀ n : Nat, 0 < n → ∃ t q : Nat, n = 2 ^ t * (2 * q + 1)
  | n, h => by
    by_cases c : n % 2 = 1
    · exact ⟨0, n / 2, by omega⟩
    · obtain ⟨t, q, e⟩ := low_form (n / 2) (by omega)
      refine ⟨t + 1, q, ?_⟩
      rw [Nat.pow_succ, Nat.mul_comm (2 ^ t) 2, Nat.mul_assoc, ← e]
      omega
termination_by n => n
decreasing_by omega
theorem low_bit (t q : Nat) : (2 ^ t * (2 * q + 1)).testBit t = true ∧ ∀ i, i < t → (2 ^ t * (2 * q + 1)).testBit i = false := by
  refine ⟨?_, fun i hi => ?_⟩
  · rw [Nat.testBit_two_pow_mul, decide_eq_true (Nat.le_refl t), Nat.sub_self, Bool.true_and, Nat.testBit_zero]
    simp
  · rw [Nat.testBit_two_pow_mul, decide_eq_false (by omega), Bool.false_and]
/-- the bits of n that are in n - 1, too, are all but the lowest -/
theorem low_and (t q : Nat) : (2 ^ t * (2 * q + 1)) &&& (2 ^ t * (2 * q + 1) - 1) = 2 ^ t * (2 * q) := by
  have hp := Nat.two_pow_pos t
  have e1 : 2 ^ t * (2 * q + 1) - 1 = 2 ^ t * (2 * q) + (2 ^ t - 1) := by
    rw [Nat.mul_add, Nat.mul_one]
    omega
  refine Nat.eq_of_testBit_eq fun i => ?_
  rw [Nat.testBit_and, e1, Nat.testBit_two_pow_mul_add _ (by omega), Nat.testBit_two_pow_mul, Nat.testBit_two_pow_mul]
  by_cases h : i < t
  · rw [if_pos h, decide_eq_false (show ¬ t ≤ i by omega)]
    simp
  · rw [if_neg h, decide_eq_true (by omega), Bool.true_and, Bool.true_and]
    cases e : i - t with
    | zero => simp
    | succ j =>
      rw [Nat.testBit_add_one, Nat.testBit_add_one]
      have e2 : (2 * q + 1) / 2 = q := by omega
      have e3 : 2 * q / 2 = q := by omega
      rw [e2, e3, Bool.and_self]
theorem find_range {p : Nat → Bool} {n k : Nat} (hk : k < n) (h : p k = true) (hl : ∀ i, i < k → p i = false) : (List.range n).find? p = some k := by
  rw [List.find?_range_eq_some]
  exact ⟨h, List.mem_range.mpr hk, fun j hj => by simp [hl j hj]⟩
end Ten
namespace Ten
/-! Counting side by side, and the least case. -/
/-- the number of these digits, the least first -/
def val (B : Nat) : List Nat → Nat
  | [] => 0
  | d :: r => d + B * val B r
/-- a, b, a, b, .. (n pairs) -/
def alt (a b : Nat) : Nat → List Nat
  | 0 => []
  | n + 1 => a :: b :: alt a b n
def pairs : List Nat → List Nat
  | a :: b :: r => (a + b) :: pairs r
  | _ => []
theorem and_digit {n d e x y : Nat} (hd : d < 2 ^ n) (he : e < 2 ^ n) : (d + 2 ^ n * x) &&& (e + 2 ^ n * y) = (d &&& e) + 2 ^ n * (x &&& y) := by
  refine Nat.eq_of_testBit_eq fun i => ?_
  have h : d &&& e < 2 ^ n := Nat.and_lt_two_pow _ he
  rw [Nat.testBit_and, Nat.add_comm d, Nat.add_comm e, Nat.add_comm (d &&& e), Nat.testBit_two_pow_mul_add _ hd, Nat.testBit_two_pow_mul_add _ he, Nat.testBit_two_pow_mul_add _ h]
  split
  · rw [Nat.testBit_and]
  · rw [Nat.testBit_and]
/-- one step: the even digits, and the odd ones a place lower, together -/
theorem step_pairs (n : Nat) : ∀ (k : Nat) (ds : List Nat), ds.length = 2 * k → (∀ d ∈ ds, d < 2 ^ n) →
    ∃ Z, (val (2 ^ n) ds &&& val (2 ^ n) (alt 0 (2 ^ n - 1) k)) = 2 ^ n * Z ∧ (val (2 ^ n) ds &&& val (2 ^ n) (alt (2 ^ n - 1) 0 k)) + Z = val (2 ^ n * 2 ^ n) (pairs ds)
  | 0, ds, hl, _ => by
    have e : ds = [] := List.length_eq_zero_iff.mp (by omega)
    subst e
    exact ⟨0, by simp [val], by simp [val, pairs]⟩
  | k + 1, [], hl, _ => by simp at hl
  | k + 1, [a], hl, _ => by simp at hl; omega
  | k + 1, a :: b :: r, hl, hd => by
    have hp := Nat.two_pow_pos n
    have ha : a < 2 ^ n := hd a (by simp)
    have hb : b < 2 ^ n := hd b (by simp)
    obtain ⟨Z, e1, e2⟩ := step_pairs n k r (by simp at hl; omega) fun d q => hd d (by simp [q])
    have m1 : ∀ x, x < 2 ^ n → x &&& (2 ^ n - 1) = x := fun x hx => Nat.and_two_pow_sub_one_of_lt_two_pow hx
    refine ⟨b + 2 ^ n * (2 ^ n * Z), ?_, ?_⟩
    · show (a + 2 ^ n * (b + 2 ^ n * val (2 ^ n) r)) &&& (0 + 2 ^ n * ((2 ^ n - 1) + 2 ^ n * val (2 ^ n) (alt 0 (2 ^ n - 1) k))) = _
      rw [and_digit ha hp, and_digit hb (by omega), e1, m1 b hb, Nat.and_zero, Nat.zero_add]
    · show ((a + 2 ^ n * (b + 2 ^ n * val (2 ^ n) r)) &&& ((2 ^ n - 1) + 2 ^ n * (0 + 2 ^ n * val (2 ^ n) (alt (2 ^ n - 1) 0 k)))) + _ = (a + b) + 2 ^ n * 2 ^ n * val (2 ^ n * 2 ^ n) (pairs r)
      rw [and_digit ha (by omega), and_digit hb hp, m1 a ha, Nat.and_zero, Nat.zero_add, ← e2]
      simp only [Nat.mul_add, Nat.mul_assoc]
      omega
def hmT (s v : Nat) : Nat := (s &&& nfun v) + ((s &&& vfun v) >>> (1 <<< v))
def hmN (f : Nat) : Nat := (List.range 10).foldl hmT f
theorem mask_yes : ∀ v, v < 10 → vfun v = val (2 ^ 2 ^ v) (alt 0 (2 ^ 2 ^ v - 1) (2 ^ (9 - v))) := by decide +kernel
theorem mask_no : ∀ v, v < 10 → nfun v = val (2 ^ 2 ^ v) (alt (2 ^ 2 ^ v - 1) 0 (2 ^ (9 - v))) := by decide +kernel
theorem hmT_pairs {v : Nat} (hv : v < 10) {ds : List Nat} (hl : ds.length = 2 ^ (10 - v)) (hd : ∀ d ∈ ds, d < 2 ^ 2 ^ v) : hmT (val (2 ^ 2 ^ v) ds) v = val (2 ^ 2 ^ (v + 1)) (pairs ds) := by
  have el : ds.length = 2 * 2 ^ (9 - v) := by
    rw [hl, show 10 - v = (9 - v) + 1 by omega, Nat.pow_succ, Nat.mul_comm]
  obtain ⟨Z, e1, e2⟩ := step_pairs (2 ^ v) (2 ^ (9 - v)) ds el hd
  unfold hmT
  rw [mask_yes v hv, mask_no v hv, e1, Nat.one_shiftLeft, Nat.shiftRight_eq_div_pow, Nat.mul_div_cancel_left _ (Nat.two_pow_pos _), e2]
  congr 1
  rw [← Nat.pow_add, Nat.pow_succ, Nat.mul_comm (2 ^ v) 2, Nat.two_mul]
theorem pairs_len : ∀ (k : Nat) (ds : List Nat), ds.length = 2 * k → (pairs ds).length = k
  | 0, ds, h => by
    have e : ds = [] := List.length_eq_zero_iff.mp (by omega)
    subst e
    rfl
  | k + 1, [], h => by simp at h
  | k + 1, [a], h => by simp at h; omega
  | k + 1, a :: b :: r, h => by
    show (pairs r).length + 1 = k + 1
    rw [pairs_len k r (by simp at h; omega)]
theorem pairs_sum : ∀ (k : Nat) (ds : List Nat), ds.length = 2 * k → (pairs ds).sum = ds.sum
  | 0, ds, h => by
    have e : ds = [] := List.length_eq_zero_iff.mp (by omega)
    subst e
    rfl
  | k + 1, [], h => by simp at h
  | k + 1, [a], h => by simp at h; omega
  | k + 1, a :: b :: r, h => by
    show ((a + b) :: pairs r).sum = (a :: b :: r).sum
    rw [List.sum_cons, List.sum_cons, List.sum_cons, pairs_sum k r (by simp at h; omega)]
    omega
theorem pairs_le {M : Nat} : ∀ (ds : List Nat), (∀ d ∈ ds, d ≤ M) → ∀ d ∈ pairs ds, d ≤ 2 * M
  | [], _, d, h => by simp [pairs] at h
  | [a], _, d, h => by simp [pairs] at h
  | a :: b :: r, hm, d, h => by
    have h' : d ∈ (a + b) :: pairs r := h
    rcases List.mem_cons.mp h' with e | e
    · have h1 := hm a (by simp)
      have h2 := hm b (by simp)
      omega
    · exact pairs_le r (fun x q => hm x (by simp [q])) d e
theorem hm_run {f : Nat} {ds : List Nat} (e : f = val 2 ds) (hl : ds.length = 1024) (hd : ∀ d ∈ ds, d ≤ 1) : hmN f = ds.sum := by
  -- behind k steps: the digits are numbers of cases
  have key : ∀ k, k ≤ 10 → ∃ cs : List Nat, (List.range k).foldl hmT f = val (2 ^ 2 ^ k) cs ∧ cs.length = 2 ^ (10 - k) ∧ cs.sum = ds.sum ∧ ∀ d ∈ cs, d ≤ 2 ^ k := by
    intro k
    induction k with
    | zero => exact fun _ => ⟨ds, e, hl, rfl, hd⟩
    | succ k ih =>
      intro hk
      obtain ⟨cs, a1, a2, a3, a4⟩ := ih (by omega)
      have el : cs.length = 2 * 2 ^ (9 - k) := by
        rw [a2, show 10 - k = (9 - k) + 1 by omega, Nat.pow_succ, Nat.mul_comm]
      refine ⟨pairs cs, ?_, ?_, ?_, ?_⟩
      · rw [List.range_succ, List.foldl_append, a1]
        exact hmT_pairs (by omega) a2 fun d q => Nat.lt_of_le_of_lt (a4 d q) (Nat.pow_lt_pow_right (by decide) Nat.lt_two_pow_self)
      · rw [pairs_len _ _ el]
        congr 1
        omega
      · rw [pairs_sum _ _ el, a3]
      · intro d q
        rw [Nat.pow_succ, Nat.mul_comm]
        exact pairs_le cs a4 d q
  obtain ⟨cs, a1, a2, a3, _⟩ := key 10 (Nat.le_refl _)
  have a2' : cs.length = 1 := a2
  obtain ⟨c, rfl⟩ := List.length_eq_one_iff.mp a2'
  unfold hmN
  rw [a1, ← a3]
  show c + 2 ^ 2 ^ 10 * 0 = [c].sum
  simp
theorem val_bits (f : Nat) : ∀ (n : Nat), f < 2 ^ n → f = val 2 ((List.range n).map fun m => if f.testBit m = true then 1 else 0) := by
  suffices h : ∀ (n s : Nat), f < 2 ^ (s + n) → f / 2 ^ s = val 2 ((List.range' s n).map fun m => if f.testBit m = true then 1 else 0) by
    intro n hn
    have q := h n 0 (by simpa using hn)
    rw [List.range_eq_range', ← q]
    simp
  intro n
  induction n with
  | zero =>
    intro s hs
    show f / 2 ^ s = 0
    exact Nat.div_eq_of_lt (by simpa using hs)
  | succ n ih =>
    intro s hs
    have q := ih (s + 1) (by rw [Nat.add_assoc, Nat.add_comm 1 n]; exact hs)
    rw [List.range'_succ, List.map_cons]
    show _ = (if f.testBit s = true then 1 else 0) + 2 * val 2 ((List.range' (s + 1) n).map fun m => if f.testBit m = true then 1 else 0)
    rw [← q, Nat.pow_succ, ← Nat.div_div_eq_div_mul, Nat.testBit_eq_decide_div_mod_eq]
    simp only [decide_eq_true_eq]
    split <;> omega
theorem bits_sum (p : Nat → Bool) : ∀ l : List Nat, (l.map fun m => if p m = true then 1 else 0).sum = (l.filter p).length
  | [] => rfl
  | a :: r => by
    rw [List.map_cons, List.sum_cons, bits_sum p r, List.filter_cons]
    split
    · rw [List.length_cons]
      omega
    · omega
theorem count_eq {f : Nat} (hf : f < Full) : hmN f = (Diag.cases f).length := by
  rw [hm_run (val_bits f 1024 hf) (by simp) (fun d q => by
    obtain ⟨m, _, e⟩ := List.mem_map.mp q
    rw [← e]
    split <;> decide), bits_sum]
  rfl
theorem hmT_bits {s v n : Nat} (hs : s < 2 ^ n) : hmT s v < 2 ^ (n + 1) := by
  unfold hmT
  have a : s &&& nfun v ≤ s := Nat.and_le_left
  have b : (s &&& vfun v) >>> (1 <<< v) ≤ s := Nat.le_trans (Nat.shiftRight_le _ _) Nat.and_le_left
  rw [Nat.pow_succ]
  omega

/-! ### the least case from a number on -/
def leastN (f start : Nat) : Option Nat := (Diag.cases f).find? fun k => decide (start ≤ k)
theorem least_far {f start : Nat} (h : 1024 ≤ start) : leastN f start = none := by
  unfold leastN
  rw [List.find?_eq_none]
  intro k hk
  have q : k < 1024 := List.mem_range.mp (List.mem_filter.mp hk).1
  simp
  omega
theorem least_none {f start : Nat} (h : f >>> start = 0) : leastN f start = none := by
  unfold leastN
  rw [List.find?_eq_none]
  intro k hk
  have q : f.testBit k = true := (List.mem_filter.mp hk).2
  have z : (f >>> start).testBit (k - start) = false := by rw [h]; exact Nat.zero_testBit _
  rw [Nat.testBit_shiftRight] at z
  simp only [decide_eq_true_eq]
  intro hle
  rw [show start + (k - start) = k by omega, q] at z
  cases z
theorem least_some {f start t q : Nat} (hf : f < Full) (h : f >>> start = 2 ^ t * (2 * q + 1)) : leastN f start = some (start + t) := by
  obtain ⟨b1, b2⟩ := low_bit t q
  rw [← h] at b1 b2
  rw [Nat.testBit_shiftRight] at b1
  unfold leastN Diag.cases
  rw [List.find?_filter]
  refine find_range (k := start + t) ?_ ?_ fun i hi => ?_
  · refine Classical.byContradiction fun c => ?_
    rw [bit_out hf (show 1024 ≤ start + t from Nat.le_of_not_lt c)] at b1
    cases b1
  · unfold Diag.value
    rw [b1]
    simp
  · by_cases c : start ≤ i
    · have z := b2 (i - start) (by omega)
      rw [Nat.testBit_shiftRight, show start + (i - start) = i by omega] at z
      unfold Diag.value
      rw [z]
      simp
    · simp [c]
end Ten
namespace Ten
/-! A step of the specification, in the program's words. -/
def Wf (fs : List Nat) : Prop := ∀ f ∈ fs, f < Full
theorem isReg_t {r : Nat} (h : r < 16) : Diag.isReg r = true := decide_eq_true h
theorem isReg_f {r : Nat} (h : ¬ r < 16) : Diag.isReg r = false := decide_eq_false h
theorem isVar_t {r : Nat} (h : r < 10) : Diag.isVar r = true := decide_eq_true h
theorem isVar_f {r : Nat} (h : ¬ r < 10) : Diag.isVar r = false := decide_eq_false h
theorem isReg_iff (r : Nat) : Diag.isReg r = false ↔ ¬ r < 16 := ⟨fun h q => (by rw [isReg_t q] at h; cases h), isReg_f⟩
theorem isVar_iff (r : Nat) : Diag.isVar r = false ↔ ¬ r < 10 := ⟨fun h q => (by rw [isVar_t q] at h; cases h), isVar_f⟩
theorem reg_lt {fs : List Nat} (h : Wf fs) (r : Nat) : Diag.reg fs r < Full := by
  unfold Diag.reg
  rw [List.getD_eq_getElem?_getD]
  cases e : fs[r]? with
  | none => exact Nat.two_pow_pos 1024
  | some f => exact h f (List.mem_of_getElem? e)
theorem wf_set {fs : List Nat} (h : Wf fs) (r : Nat) (g : Nat → Bool) : Wf (fs.set r (Diag.funcBy g)) := fun f hf => by
  rcases List.mem_or_eq_of_mem_set hf with q | q
  · exact h f q
  · rw [q]
    exact funcBy_lt g
theorem step_wf {fs : List Nat} (h : Wf fs) (c : Diag.Call) : Wf (Diag.step fs c).1 := by
  have key : ∀ (p : Prop) [Decidable p] (r : Nat) (g : Nat → Bool), Wf (if p then (fs, Diag.says (-1)) else Diag.sets fs r (Diag.funcBy g)).1 := fun p _ r g => by
    by_cases q : p
    · rw [if_pos q]
      exact h
    · rw [if_neg q]
      exact wf_set h r g
  cases c with
  | const r z => exact key _ _ _
  | var r v => exact key _ _ _
  | not_ r a => exact key _ _ _
  | two r op a b => exact key _ _ _
  | choose r a b c => exact key _ _ _
  | fix r a v z => exact key _ _ _
  | some_ r a v => exact key _ _ _
  | all_ r a v => exact key _ _ _
  | put r a v b => exact key _ _ _
  | _ => exact h
theorem step_len {fs : List Nat} (c : Diag.Call) : (Diag.step fs c).1.length = fs.length := by
  have key : ∀ (p : Prop) [Decidable p] (r : Nat) (g : Nat), (if p then (fs, Diag.says (-1)) else Diag.sets fs r g).1.length = fs.length := fun p _ r g => by
    by_cases q : p
    · rw [if_pos q]
    · rw [if_neg q]
      exact List.length_set
  cases c with
  | const r z => exact key _ _ _
  | var r v => exact key _ _ _
  | not_ r a => exact key _ _ _
  | two r op a b => exact key _ _ _
  | choose r a b c => exact key _ _ _
  | fix r a v z => exact key _ _ _
  | some_ r a v => exact key _ _ _
  | all_ r a v => exact key _ _ _
  | put r a v b => exact key _ _ _
  | _ => rfl
theorem one_dec {z : Nat} (hz : z < 2) : (z == 1) = decide (z = 1) := by
  by_cases h : z = 1
  · rw [h]
    rfl
  · rw [decide_eq_false h]
    simpa using h
section
variable {fs : List Nat}
theorem st_const {r z : Nat} (h : r < 16 ∧ z < 2) : Diag.step fs (.const r z) = Diag.sets fs r (if z = 1 then EV else 0) := by
  show (if Diag.isReg r = false ∨ 1 < z then (fs, Diag.says (-1)) else Diag.sets fs r (Diag.constant (z == 1))) = _
  rw [if_neg (by simp only [isReg_iff, isVar_iff]; omega), const_eq, one_dec h.2]
  simp only [decide_eq_true_eq]
theorem no_const {r z : Nat} (h : ¬ (r < 16 ∧ z < 2)) : Diag.step fs (.const r z) = (fs, Diag.says (-1)) := by
  show (if Diag.isReg r = false ∨ 1 < z then (fs, Diag.says (-1)) else Diag.sets fs r (Diag.constant (z == 1))) = _
  rw [if_pos (by simp only [isReg_iff, isVar_iff]; omega)]
theorem st_var {r v : Nat} (h : r < 16 ∧ v < 10) : Diag.step fs (.var r v) = Diag.sets fs r (vfun v) := by
  show (if Diag.isReg r = false ∨ Diag.isVar v = false then (fs, Diag.says (-1)) else Diag.sets fs r (Diag.variable_ v)) = _
  rw [if_neg (by simp only [isReg_iff, isVar_iff]; omega), vfun_var v h.2]
theorem no_var {r v : Nat} (h : ¬ (r < 16 ∧ v < 10)) : Diag.step fs (.var r v) = (fs, Diag.says (-1)) := by
  show (if Diag.isReg r = false ∨ Diag.isVar v = false then (fs, Diag.says (-1)) else Diag.sets fs r (Diag.variable_ v)) = _
  rw [if_pos (by simp only [isReg_iff, isVar_iff]; omega)]
theorem st_not (W : Wf fs) {r a : Nat} (h : r < 16 ∧ a < 16) : Diag.step fs (.not_ r a) = Diag.sets fs r (notN (Diag.reg fs a)) := by
  show (if Diag.isReg r = false ∨ Diag.isReg a = false then (fs, Diag.says (-1)) else Diag.sets fs r (Diag.negated (Diag.reg fs a))) = _
  rw [if_neg (by simp only [isReg_iff, isVar_iff]; omega), not_eq (reg_lt W a)]
theorem no_not {r a : Nat} (h : ¬ (r < 16 ∧ a < 16)) : Diag.step fs (.not_ r a) = (fs, Diag.says (-1)) := by
  show (if Diag.isReg r = false ∨ Diag.isReg a = false then (fs, Diag.says (-1)) else Diag.sets fs r (Diag.negated (Diag.reg fs a))) = _
  rw [if_pos (by simp only [isReg_iff, isVar_iff]; omega)]
theorem st_two (W : Wf fs) {r op a b : Nat} (h : (r < 16 ∧ a < 16 ∧ b < 16) ∧ op < 16) : Diag.step fs (.two r op a b) = Diag.sets fs r (combN op (Diag.reg fs a) (Diag.reg fs b)) := by
  show (if Diag.isReg r = false ∨ Diag.isReg a = false ∨ Diag.isReg b = false ∨ 15 < op then (fs, Diag.says (-1)) else Diag.sets fs r (Diag.joined op (Diag.reg fs a) (Diag.reg fs b))) = _
  rw [if_neg (by simp only [isReg_iff, isVar_iff]; omega), comb_eq (reg_lt W a) (reg_lt W b)]
theorem no_two {r op a b : Nat} (h : ¬ ((r < 16 ∧ a < 16 ∧ b < 16) ∧ op < 16)) : Diag.step fs (.two r op a b) = (fs, Diag.says (-1)) := by
  show (if Diag.isReg r = false ∨ Diag.isReg a = false ∨ Diag.isReg b = false ∨ 15 < op then (fs, Diag.says (-1)) else Diag.sets fs r (Diag.joined op (Diag.reg fs a) (Diag.reg fs b))) = _
  rw [if_pos (by simp only [isReg_iff, isVar_iff]; omega)]
theorem st_choose (W : Wf fs) {r a b c : Nat} (h : r < 16 ∧ a < 16 ∧ b < 16 ∧ c < 16) : Diag.step fs (.choose r a b c) = Diag.sets fs r (choN (Diag.reg fs a) (Diag.reg fs b) (Diag.reg fs c)) := by
  show (if Diag.isReg r = false ∨ Diag.isReg a = false ∨ Diag.isReg b = false ∨ Diag.isReg c = false then (fs, Diag.says (-1)) else Diag.sets fs r (Diag.chosen (Diag.reg fs a) (Diag.reg fs b) (Diag.reg fs c))) = _
  rw [if_neg (by simp only [isReg_iff, isVar_iff]; omega), cho_eq (reg_lt W b) (reg_lt W c)]
theorem no_choose {r a b c : Nat} (h : ¬ (r < 16 ∧ a < 16 ∧ b < 16 ∧ c < 16)) : Diag.step fs (.choose r a b c) = (fs, Diag.says (-1)) := by
  show (if Diag.isReg r = false ∨ Diag.isReg a = false ∨ Diag.isReg b = false ∨ Diag.isReg c = false then (fs, Diag.says (-1)) else Diag.sets fs r (Diag.chosen (Diag.reg fs a) (Diag.reg fs b) (Diag.reg fs c))) = _
  rw [if_pos (by simp only [isReg_iff, isVar_iff]; omega)]
theorem st_fix (W : Wf fs) {r a v z : Nat} (h : (r < 16 ∧ a < 16) ∧ v < 10 ∧ z < 2) : Diag.step fs (.fix r a v z) = Diag.sets fs r (fixN (Diag.reg fs a) v (decide (z = 1))) := by
  show (if Diag.isReg r = false ∨ Diag.isReg a = false ∨ Diag.isVar v = false ∨ 1 < z then (fs, Diag.says (-1)) else Diag.sets fs r (Diag.fixed (Diag.reg fs a) v (z == 1))) = _
  rw [if_neg (by simp only [isReg_iff, isVar_iff]; omega), fixN_eq _ (reg_lt W a) h.2.1, one_dec h.2.2]
theorem no_fix {r a v z : Nat} (h : ¬ ((r < 16 ∧ a < 16) ∧ v < 10 ∧ z < 2)) : Diag.step fs (.fix r a v z) = (fs, Diag.says (-1)) := by
  show (if Diag.isReg r = false ∨ Diag.isReg a = false ∨ Diag.isVar v = false ∨ 1 < z then (fs, Diag.says (-1)) else Diag.sets fs r (Diag.fixed (Diag.reg fs a) v (z == 1))) = _
  rw [if_pos (by simp only [isReg_iff, isVar_iff]; omega)]
theorem st_some (W : Wf fs) {r a v : Nat} (h : (r < 16 ∧ a < 16) ∧ v < 10) : Diag.step fs (.some_ r a v) = Diag.sets fs r (fixN (Diag.reg fs a) v false ||| fixN (Diag.reg fs a) v true) := by
  show (if Diag.isReg r = false ∨ Diag.isReg a = false ∨ Diag.isVar v = false then (fs, Diag.says (-1)) else Diag.sets fs r (Diag.some_ (Diag.reg fs a) v)) = _
  rw [if_neg (by simp only [isReg_iff, isVar_iff]; omega), some_eq (reg_lt W a) h.2]
theorem no_some {r a v : Nat} (h : ¬ ((r < 16 ∧ a < 16) ∧ v < 10)) : Diag.step fs (.some_ r a v) = (fs, Diag.says (-1)) := by
  show (if Diag.isReg r = false ∨ Diag.isReg a = false ∨ Diag.isVar v = false then (fs, Diag.says (-1)) else Diag.sets fs r (Diag.some_ (Diag.reg fs a) v)) = _
  rw [if_pos (by simp only [isReg_iff, isVar_iff]; omega)]
theorem st_all (W : Wf fs) {r a v : Nat} (h : (r < 16 ∧ a < 16) ∧ v < 10) : Diag.step fs (.all_ r a v) = Diag.sets fs r (fixN (Diag.reg fs a) v false &&& fixN (Diag.reg fs a) v true) := by
  show (if Diag.isReg r = false ∨ Diag.isReg a = false ∨ Diag.isVar v = false then (fs, Diag.says (-1)) else Diag.sets fs r (Diag.all_ (Diag.reg fs a) v)) = _
  rw [if_neg (by simp only [isReg_iff, isVar_iff]; omega), all_eq (reg_lt W a) h.2]
theorem no_all {r a v : Nat} (h : ¬ ((r < 16 ∧ a < 16) ∧ v < 10)) : Diag.step fs (.all_ r a v) = (fs, Diag.says (-1)) := by
  show (if Diag.isReg r = false ∨ Diag.isReg a = false ∨ Diag.isVar v = false then (fs, Diag.says (-1)) else Diag.sets fs r (Diag.all_ (Diag.reg fs a) v)) = _
  rw [if_pos (by simp only [isReg_iff, isVar_iff]; omega)]
theorem st_put (W : Wf fs) {r a v b : Nat} (h : (r < 16 ∧ a < 16 ∧ b < 16) ∧ v < 10) : Diag.step fs (.put r a v b) = Diag.sets fs r (putN (Diag.reg fs a) v (Diag.reg fs b)) := by
  show (if Diag.isReg r = false ∨ Diag.isReg a = false ∨ Diag.isVar v = false ∨ Diag.isReg b = false then (fs, Diag.says (-1)) else Diag.sets fs r (Diag.put (Diag.reg fs a) v (Diag.reg fs b))) = _
  rw [if_neg (by simp only [isReg_iff, isVar_iff]; omega), put_eq (reg_lt W a) h.2]
theorem no_put {r a v b : Nat} (h : ¬ ((r < 16 ∧ a < 16 ∧ b < 16) ∧ v < 10)) : Diag.step fs (.put r a v b) = (fs, Diag.says (-1)) := by
  show (if Diag.isReg r = false ∨ Diag.isReg a = false ∨ Diag.isVar v = false ∨ Diag.isReg b = false then (fs, Diag.says (-1)) else Diag.sets fs r (Diag.put (Diag.reg fs a) v (Diag.reg fs b))) = _
  rw [if_pos (by simp only [isReg_iff, isVar_iff]; omega)]
theorem st_value {a m : Nat} (h : a < 16 ∧ m < 1024) : Diag.step fs (.value a m) = (fs, Diag.says (((Diag.reg fs a >>> m) &&& 1 : Nat) : Int)) := by
  show (fs, if Diag.isReg a = false ∨ 1024 ≤ m then Diag.says (-1) else Diag.says (if Diag.value (Diag.reg fs a) m = true then 1 else 0)) = _
  rw [if_neg (by simp only [isReg_iff, isVar_iff]; omega), says_eq]
  split <;> rfl
theorem no_value {a m : Nat} (h : ¬ (a < 16 ∧ m < 1024)) : Diag.step fs (.value a m) = (fs, Diag.says (-1)) := by
  show (fs, if Diag.isReg a = false ∨ 1024 ≤ m then Diag.says (-1) else Diag.says (if Diag.value (Diag.reg fs a) m = true then 1 else 0)) = _
  rw [if_pos (by simp only [isReg_iff, isVar_iff]; omega)]
theorem st_count (W : Wf fs) {a : Nat} (h : a < 16) : Diag.step fs (.count a) = (fs, Diag.says ((hmN (Diag.reg fs a) : Nat) : Int)) := by
  show (fs, if Diag.isReg a = false then Diag.says (-1) else Diag.says (((Diag.cases (Diag.reg fs a)).length : Nat) : Int)) = _
  rw [if_neg (by simp only [isReg_iff, isVar_iff]; omega), count_eq (reg_lt W a)]
theorem no_count {a : Nat} (h : ¬ a < 16) : Diag.step fs (.count a) = (fs, Diag.says (-1)) := by
  show (fs, if Diag.isReg a = false then Diag.says (-1) else Diag.says (((Diag.cases (Diag.reg fs a)).length : Nat) : Int)) = _
  rw [if_pos ((isReg_iff _).mpr h)]
theorem st_first {a m : Nat} (h : a < 16) : Diag.step fs (.first a m) = (fs, match leastN (Diag.reg fs a) m with | none => Diag.says (-5) | some k => Diag.says ((k : Nat) : Int)) := by
  show (fs, if Diag.isReg a = false then Diag.says (-1) else match leastN (Diag.reg fs a) m with | none => Diag.says (-5) | some k => Diag.says ((k : Nat) : Int)) = _
  rw [if_neg (by simp only [isReg_iff, isVar_iff]; omega)]
theorem no_first {a m : Nat} (h : ¬ a < 16) : Diag.step fs (.first a m) = (fs, Diag.says (-1)) := by
  show (fs, if Diag.isReg a = false then Diag.says (-1) else match leastN (Diag.reg fs a) m with | none => Diag.says (-5) | some k => Diag.says ((k : Nat) : Int)) = _
  rw [if_pos ((isReg_iff _).mpr h)]
theorem st_matters (W : Wf fs) {a : Nat} (h : a < 16) : Diag.step fs (.matters a) = (fs, Diag.lists (hangs (Diag.reg fs a))) := by
  show (fs, if Diag.isReg a = false then Diag.says (-1) else Diag.lists (Diag.matters (Diag.reg fs a))) = _
  rw [if_neg (by simp only [isReg_iff, isVar_iff]; omega), matters_eq (reg_lt W a)]
theorem no_matters {a : Nat} (h : ¬ a < 16) : Diag.step fs (.matters a) = (fs, Diag.says (-1)) := by
  show (fs, if Diag.isReg a = false then Diag.says (-1) else Diag.lists (Diag.matters (Diag.reg fs a))) = _
  rw [if_pos ((isReg_iff _).mpr h)]
/-- where a says yes, b no -/
def outN (f g : Nat) : Nat := f &&& notN g
theorem outN_lt {f g : Nat} (hg : g < Full) : outN f g < Full := Nat.and_lt_two_pow _ (notN_lt hg)
theorem st_within (W : Wf fs) {a b : Nat} (h : a < 16 ∧ b < 16) : Diag.step fs (.within a b) = (fs, match leastN (outN (Diag.reg fs a) (Diag.reg fs b)) 0 with | none => Diag.says 1 | some k => ⟨0, [[k]]⟩) := by
  show (fs, if Diag.isReg a = false ∨ Diag.isReg b = false then Diag.says (-1) else match (Diag.cases (Diag.reg fs a)).find? fun (k : Nat) => !Diag.value (Diag.reg fs b) k with | none => Diag.says 1 | some k => ⟨0, [[k]]⟩) = _
  have e : (Diag.cases (Diag.reg fs a)).find? (fun (k : Nat) => !Diag.value (Diag.reg fs b) k) = leastN (outN (Diag.reg fs a) (Diag.reg fs b)) 0 := by
    unfold leastN Diag.cases
    rw [List.find?_filter, List.find?_filter]
    have key : ∀ l : List Nat, (∀ k ∈ l, k < 1024) → l.find? (fun k => decide (Diag.value (Diag.reg fs a) k = true ∧ (!Diag.value (Diag.reg fs b) k) = true)) = l.find? (fun k => decide (Diag.value (outN (Diag.reg fs a) (Diag.reg fs b)) k = true ∧ decide (0 ≤ k) = true)) := by
      intro l
      induction l with
      | nil => intro _; rfl
      | cons k r ih =>
        intro hk
        have e1 : decide (Diag.value (Diag.reg fs a) k = true ∧ (!Diag.value (Diag.reg fs b) k) = true) = decide (Diag.value (outN (Diag.reg fs a) (Diag.reg fs b)) k = true ∧ decide (0 ≤ k) = true) := by
          unfold Diag.value outN
          rw [Nat.testBit_and, notN_bit (hk k (by simp))]
          simp
        rw [List.find?_cons, List.find?_cons, e1, ih fun j hj => hk j (by simp [hj])]
    exact key _ fun k hk => List.mem_range.mp hk
  rw [if_neg (by simp only [isReg_iff, isVar_iff]; omega), e]
theorem no_within {a b : Nat} (h : ¬ (a < 16 ∧ b < 16)) : Diag.step fs (.within a b) = (fs, Diag.says (-1)) := by
  show (fs, if Diag.isReg a = false ∨ Diag.isReg b = false then Diag.says (-1) else match (Diag.cases (Diag.reg fs a)).find? fun (k : Nat) => !Diag.value (Diag.reg fs b) k with | none => Diag.says 1 | some k => ⟨0, [[k]]⟩) = _
  rw [if_pos (by simp only [isReg_iff, isVar_iff]; omega)]
theorem least_zero {f : Nat} : leastN f 0 = none ↔ f = 0 ∨ 2 ^ 1024 ≤ f ∧ leastN f 0 = none := by
  constructor
  · intro h
    by_cases c : 2 ^ 1024 ≤ f
    · exact .inr ⟨c, h⟩
    · refine .inl (Classical.byContradiction fun z => ?_)
      obtain ⟨t, q, e⟩ := low_form f (Nat.pos_of_ne_zero z)
      have e' : f >>> 0 = 2 ^ t * (2 * q + 1) := e
      rw [least_some (Nat.lt_of_not_le c) e'] at h
      cases h
  · rintro (h | h)
    · exact least_none (by rw [h]; rfl)
    · exact h.2
end
end Ten
namespace Ten
open PySem PySem.Spec PyProof.Rows L2
/-! Whole numbers that are not below 0 as operators' operands; lists of them; what lies in the heap. -/
abbrev nV (n : Nat) : V := .int ((n : Nat) : Int)
def nVs (l : List Nat) : List V := l.map fun n => nV n
theorem nVs_len (l : List Nat) : (nVs l).length = l.length := List.length_map _
theorem nVs_get {l : List Nat} {i n : Nat} (h : l[i]? = some n) : (nVs l)[i]? = some (nV n) := by
  unfold nVs
  rw [List.getElem?_map, h]
  rfl
theorem nVs_at {l : List Nat} {i : Nat} {x : V} (h : (nVs l)[i]? = some x) : ∃ n, l[i]? = some n ∧ x = nV n := by
  unfold nVs at h
  rw [List.getElem?_map] at h
  cases e : l[i]? with
  | none =>
    rw [e] at h
    cases h
  | some n =>
    rw [e] at h
    exact ⟨n, rfl, (Option.some.inj h).symm⟩
theorem nVs_set (l : List Nat) (i n : Nat) : (nVs l).set i (nV n) = nVs (l.set i n) := by
  unfold nVs
  rw [List.map_set]
theorem nVs_app (l r : List Nat) : nVs l ++ nVs r = nVs (l ++ r) := by
  unfold nVs
  rw [List.map_append]
theorem nVs_ints (l : List Nat) : nVs l = (l.map fun n => ((n : Nat) : Int)).map V.int := by
  unfold nVs
  rw [List.map_map]
  rfl
theorem nat_and (n m : Nat) : Builtin.bitAnd (n : Int) (m : Int) = ((n &&& m : Nat) : Int) := by
  unfold Builtin.bitAnd
  rw [decide_eq_true (Int.natCast_nonneg n), decide_eq_true (Int.natCast_nonneg m)]
  rfl
theorem nat_or (n m : Nat) : Builtin.bitOr (n : Int) (m : Int) = ((n ||| m : Nat) : Int) := by
  rw [bitOr_nn (Int.natCast_nonneg _) (Int.natCast_nonneg _)]
  rfl
theorem or_split : ∀ n m : Nat, n ||| m = (n ^^^ m) + (n &&& m)
  | n, m => by
    by_cases h : n = 0
    · rw [h]
      simp
    · have ih := or_split (n / 2) (m / 2)
      rw [← Nat.or_div_two, ← Nat.xor_div_two, ← Nat.and_div_two] at ih
      have e : (n ||| m) % 2 = ((n ^^^ m) % 2) + ((n &&& m) % 2) := by
        have a1 : n % 2 = 0 ∨ n % 2 = 1 := by omega
        have a2 : m % 2 = 0 ∨ m % 2 = 1 := by omega
        have b1 : (n ||| m) % 2 = (n % 2) ||| (m % 2) := Nat.or_mod_two_pow (n := 1)
        have b2 : (n ^^^ m) % 2 = (n % 2) ^^^ (m % 2) := Nat.xor_mod_two_pow (n := 1)
        have b3 : (n &&& m) % 2 = (n % 2) &&& (m % 2) := Nat.and_mod_two_pow (n := 1)
        rw [b1, b2, b3]
        rcases a1 with a1 | a1 <;> rcases a2 with a2 | a2 <;> rw [a1, a2] <;> rfl
      omega
termination_by n => n
decreasing_by omega
theorem nat_xor (n m : Nat) : Builtin.bitXor (n : Int) (m : Int) = ((n ^^^ m : Nat) : Int) := by
  show Builtin.bitOr (n : Int) (m : Int) - Builtin.bitAnd (n : Int) (m : Int) = _
  rw [nat_or, nat_and, or_split]
  omega
theorem nV_inj (n m : Nat) : V.int (n : Int) = V.int (m : Int) ↔ n = m := ⟨fun z => by
  injection z with z
  exact Int.ofNat.inj z, fun z => by rw [z]⟩
section
variable {X : Cx}
/-- a module's whole number -/
theorem pe_gi {x : Str} {i : Int} {pos : Pos} (hg : Gl X x) (h : ∃ t, X.mg x = some (.int i t)) (hd : (x == ("__debug__" : Str)) = false := by decide) : PE X (.Name x pos) (tC (.int i)) := by
  obtain ⟨t, e⟩ := h
  exact pe_glob hg e ⟨t, rfl⟩ hd
theorem opn_and : OpR X (binaryOp .BitAnd) (fun x y H Q => ∃ n m : Nat, x = .int (n : Int) ∧ y = .int (m : Int) ∧ Q (.int ((n &&& m : Nat) : Int)) H) := by
  intro pins s σ H x y v u Q I rx ry ⟨n, m, ex, ey, q⟩
  rw [← nat_and] at q
  exact op_and pins s σ H x y v u Q I rx ry ⟨_, _, ex, ey, q⟩
theorem opn_or : OpR X (binaryOp .BitOr) (fun x y H Q => ∃ n m : Nat, x = .int (n : Int) ∧ y = .int (m : Int) ∧ Q (.int ((n ||| m : Nat) : Int)) H) := by
  intro pins s σ H x y v u Q I rx ry ⟨n, m, ex, ey, q⟩
  rw [← nat_or] at q
  exact op_or pins s σ H x y v u Q I rx ry ⟨_, _, ex, ey, q⟩
theorem opn_xor : OpR X (binaryOp .BitXor) (fun x y H Q => ∃ n m : Nat, x = .int (n : Int) ∧ y = .int (m : Int) ∧ Q (.int ((n ^^^ m : Nat) : Int)) H) := by
  intro pins s σ H x y v u Q I rx ry ⟨n, m, ex, ey, q⟩
  rw [← nat_xor] at q
  exact op_xor pins s σ H x y v u Q I rx ry ⟨_, _, ex, ey, q⟩
theorem opn_shl : OpR X (binaryOp .LShift) (fun x y H Q => ∃ n k b : Nat, x = .int (n : Int) ∧ y = .int (k : Int) ∧ n < 2 ^ b ∧ b + k ≤ 1000000 ∧ Q (.int ((n <<< k : Nat) : Int)) H) := by
  intro pins s σ H x y v u Q I rx ry ⟨n, k, b, ex, ey, h1, h2, q⟩
  refine op_shlN pins s σ H x y v u Q I rx ry ⟨_, k, ex, ey, shl_ok (n := b) (by simpa using h1) (by omega), ?_⟩
  have e : ((n : Nat) : Int) * 2 ^ k = ((n <<< k : Nat) : Int) := by
    rw [Nat.shiftLeft_eq, Int.natCast_mul, Int.natCast_pow]
    rfl
  rw [e]
  exact q
theorem opn_shr : OpR X (binaryOp .RShift) (fun x y H Q => ∃ n k : Nat, x = .int (n : Int) ∧ y = .int (k : Int) ∧ Q (.int ((n >>> k : Nat) : Int)) H) := by
  intro pins s σ H x y v u Q I rx ry ⟨n, k, ex, ey, q⟩
  refine op_shrN pins s σ H x y v u Q I rx ry ⟨_, k, ex, ey, ?_⟩
  have e : ((n : Nat) : Int) / 2 ^ k = ((n >>> k : Nat) : Int) := by
    rw [Nat.shiftRight_eq_div_pow, Int.natCast_ediv, Int.natCast_pow]
    rfl
  rw [e]
  exact q
theorem opn_lt : OpR X (compareOp .Lt) (fun x y H Q => ∃ n m : Nat, x = .int (n : Int) ∧ y = .int (m : Int) ∧ Q (.bl (decide (n < m))) H) := by
  intro pins s σ H x y v u Q I rx ry ⟨n, m, ex, ey, q⟩
  refine op_lt pins s σ H x y v u Q I rx ry ⟨_, _, ex, ey, ?_⟩
  show Q (.bl (decide ((n : Int) < (m : Int)))) H
  rw [show decide ((n : Int) < (m : Int)) = decide (n < m) by simp]
  exact q
theorem opn_ge : OpR X (compareOp .GtE) (fun x y H Q => ∃ n m : Nat, x = .int (n : Int) ∧ y = .int (m : Int) ∧ Q (.bl (decide (m ≤ n))) H) := by
  intro pins s σ H x y v u Q I rx ry ⟨n, m, ex, ey, q⟩
  refine op_ge pins s σ H x y v u Q I rx ry ⟨_, _, ex, ey, ?_⟩
  show Q (.bl (decide ((m : Int) ≤ (n : Int)))) H
  rw [show decide ((m : Int) ≤ (n : Int)) = decide (m ≤ n) by simp]
  exact q
theorem opn_gt : OpR X (compareOp .Gt) (fun x y H Q => ∃ n m : Nat, x = .int (n : Int) ∧ y = .int (m : Int) ∧ Q (.bl (decide (m < n))) H) := by
  intro pins s σ H x y v u Q I rx ry ⟨n, m, ex, ey, q⟩
  refine op_gt pins s σ H x y v u Q I rx ry ⟨_, _, ex, ey, ?_⟩
  show Q (.bl (decide ((m : Int) < (n : Int)))) H
  rw [show decide ((m : Int) < (n : Int)) = decide (m < n) by simp]
  exact q
theorem opn_eq : OpR X (compareOp .Eq) (fun x y H Q => ∃ n m : Nat, x = .int (n : Int) ∧ y = .int (m : Int) ∧ Q (.bl (decide (n = m))) H) := by
  intro pins s σ H x y v u Q I rx ry ⟨n, m, ex, ey, q⟩
  subst ex ey
  refine op_eq pins s σ H _ _ v u Q I rx ry ⟨rfl, ?_⟩
  rw [decide_eq_decide.mpr (nV_inj n m)]
  exact q
theorem opn_ne : OpR X (compareOp .NotEq) (fun x y H Q => ∃ n m : Nat, x = .int (n : Int) ∧ y = .int (m : Int) ∧ Q (.bl (!decide (n = m))) H) := by
  intro pins s σ H x y v u Q I rx ry ⟨n, m, ex, ey, q⟩
  subst ex ey
  refine op_ne pins s σ H _ _ v u Q I rx ry ⟨rfl, ?_⟩
  rw [decide_eq_decide.mpr (nV_inj n m)]
  exact q
end

/-! ### what lies in the heap -/
theorem lk_here {k : Str} {v : V} {r : List (Str × V)} : List.lookup k ((k, v) :: r) = some v := by
  have e : (k == k) = true := beq_self_eq_true k
  simp only [List.lookup, e]
theorem lk_past {k g : Str} {v : V} {r : List (Str × V)} (h : (k == g) = false) : List.lookup k ((g, v) :: r) = List.lookup k r := by
  simp only [List.lookup, h]
theorem put_here {f : Str} {v x : V} {r : List (Str × V)} : putF f v ((f, x) :: r) = (f, v) :: r := if_pos rfl
theorem put_past {f g : Str} {v x : V} {r : List (Str × V)} (h : ¬ g = f) : putF f v ((g, x) :: r) = (g, x) :: putF f v r := if_neg h
theorem Same.upd {H : Hp} {p : Addr} {o : HO} (h : H p = none) : Same H (upd H p o) := fun b q e => by
  rw [upd_ne (ne_of_none e h)]
  exact e
theorem Same.new {H H' : Hp} {p : Addr} {o : HO} (s : Same H H') (h : H' p = none) : Same H (L2.upd H' p o) := s.trans (Same.upd h)
def yesL : List Nat := (List.range 10).map vfun
def noL : List Nat := (List.range 10).map nfun
/-- the fields of Cases, State -/
def csF (y n : Addr) : List (Str × V) := [("everywhere", nV EV), ("yes", .ref y), ("no", .ref n)]
def stF (cs fl : Addr) : List (Str × V) := [("cases", .ref cs), ("functions", .ref fl)]
/-- at c: the Cases object -/
def CasesAt (a : Ad) (H : Hp) (c : Addr) : Prop := ∃ dx y n, H c = some (.ins a.c_Cases dx (csF y n)) ∧ H y = some (.lst (nVs yesL)) ∧ H n = some (.lst (nVs noL))
theorem CasesAt.same {a : Ad} {H H' : Hp} {c : Addr} (h : CasesAt a H c) (s : Same H H') : CasesAt a H' c := by
  obtain ⟨dx, y, n, e1, e2, e3⟩ := h
  exact ⟨dx, y, n, s _ _ e1, s _ _ e2, s _ _ e3⟩
theorem csF_ev (y n : Addr) : (csF y n).lookup ("everywhere" : Str) = some (nV EV) := lk_here
theorem csF_yes (y n : Addr) : (csF y n).lookup ("yes" : Str) = some (.ref y) := (lk_past (by decide +kernel)).trans lk_here
theorem csF_no (y n : Addr) : (csF y n).lookup ("no" : Str) = some (.ref n) := (lk_past (by decide +kernel)).trans ((lk_past (by decide +kernel)).trans lk_here)
/-- no attribute of this name (a method's) -/
def notField (m : Str) (fs : List Str) : Bool := fs.all fun f => !(m == f)
theorem no_field {m : Str} : ∀ {fs : List (Str × V)}, notField m (fs.map (·.1)) = true → fs.lookup m = none
  | [], _ => rfl
  | (f, v) :: r, h => by
    have h' : (!(m == f) && notField m (r.map (·.1))) = true := h
    rw [Bool.and_eq_true] at h'
    rw [lk_past (by simpa using h'.1)]
    exact no_field h'.2
theorem csF_m (y n : Addr) {m : Str} (h : notField m ["everywhere", "yes", "no"] = true) : (csF y n).lookup m = none := no_field h
theorem yes_at {v : Nat} (hv : v < 10) : (nVs yesL)[v]? = some (nV (vfun v)) := nVs_get (by unfold yesL; rw [List.getElem?_map, List.getElem?_range hv]; rfl)
theorem no_at {v : Nat} (hv : v < 10) : (nVs noL)[v]? = some (nV (nfun v)) := nVs_get (by unfold noL; rw [List.getElem?_map, List.getElem?_range hv]; rfl)
theorem at_nat {xs : List V} {j : Nat} {v : V} (h : xs[j]? = some v) : atI xs (j : Int) = some v := atI_nat h

/-! ### variable_function -/
section
variable {P : Program} {w : World} {K : PySem.W.Frag} {mg : Str → Option Value} {base : Heap} {a : Ad}
theorem dbl (k : Nat) : 2 * 2 ^ k = 2 ^ (k + 1) := by rw [Nat.pow_succ, Nat.mul_comm]
/-- one turn behind another: the loop's state behind k turns -/
def vpat (v : Nat) : Nat → Nat
  | 0 => ((1 <<< (1 <<< v)) - 1) <<< (1 <<< v)
  | k + 1 => vpat v k ||| (vpat v k <<< (2 ^ (v + 1 + k)))
theorem vpat_loop (v : Nat) : ∀ (j k : Nat), v + 1 + k + j = 10 → ∀ n, j < n → vloop n (vpat v k) (2 ^ (v + 1 + k)) = vpat v (k + j)
  | 0, k, h, n + 1, _ => by
    unfold vloop
    rw [show v + 1 + k = 10 by omega, if_neg (by decide)]
    rfl
  | j + 1, k, h, n + 1, hn => by
    unfold vloop
    have lt : 2 ^ (v + 1 + k) < 2 ^ 10 := Nat.pow_lt_pow_right (by decide) (show v + 1 + k < 10 by omega)
    rw [if_pos lt]
    have ih := vpat_loop v j (k + 1) (by omega) n (by omega)
    rw [show 2 * 2 ^ (v + 1 + k) = 2 ^ (v + 1 + (k + 1)) by rw [Nat.mul_comm, ← Nat.pow_succ]; rfl]
    rw [show vpat v k ||| (vpat v k <<< 2 ^ (v + 1 + k)) = vpat v (k + 1) from rfl, ih]
    congr 1
    omega
theorem vpat_end {v : Nat} (hv : v < 10) : vpat v (9 - v) = vfun v := by
  have q := vpat_loop v (9 - v) 0 (by omega) 11 (by omega)
  rw [Nat.zero_add] at q
  rw [← q]
  show vloop 11 (vpat v 0) _ = vloop 11 (vpat v 0) (2 * (1 <<< v))
  rw [Nat.one_shiftLeft, dbl v]
theorem vpat_lt {v : Nat} : ∀ k, vpat v k < 2 ^ (2 ^ (v + 1 + k))
  | 0 => by
    unfold vpat
    rw [Nat.one_shiftLeft, Nat.one_shiftLeft, Nat.shiftLeft_eq, show v + 1 + 0 = v + 1 by rfl, Nat.pow_succ 2 v, Nat.mul_two, Nat.pow_add]
    exact Nat.mul_lt_mul_of_pos_right (Nat.sub_lt (Nat.two_pow_pos _) (by decide)) (Nat.two_pow_pos _)
  | k + 1 => by
    have ih := vpat_lt (v := v) k
    show vpat v k ||| (vpat v k <<< 2 ^ (v + 1 + k)) < _
    have e : 2 ^ (v + 1 + (k + 1)) = 2 ^ (v + 1 + k) + 2 ^ (v + 1 + k) := by
      rw [← Nat.add_assoc, Nat.pow_succ, Nat.mul_two]
    rw [e]
    refine Nat.or_lt_two_pow (Nat.lt_of_lt_of_le ih (Nat.pow_le_pow_right (by decide) (Nat.le_add_left _ _))) ?_
    rw [Nat.shiftLeft_eq, Nat.pow_add 2 (2 ^ (v + 1 + k)) (2 ^ (v + 1 + k))]
    exact Nat.mul_lt_mul_of_pos_right ih (Nat.two_pow_pos _)
def spVf : Sp := fun vs H Q _ => ∃ v : Nat, vs = [nV v] ∧ v < 10 ∧ Q (nV (vfun v)) H
theorem scVf : FnScope ["variable", "step", "pattern", "width"] ["variable"] (defScope s_variable_function) := ⟨rfl, rfl, rfl, by decide +kernel, rfl, by decide +kernel, by decide +kernel⟩
theorem ok_vf (T : Txt K mg a) : FnOk P w K mg base CX0 1 a.f_variable_function a.d_variable_function ["variable"] spVf := by
  refine T.variable_function.F.ok scVf (fun vs H Q E h => ?_) (fun cdv A outer s H vs Q E hr h => ⟨_, pss_cons (ps_set (i := 1) scVf.nd rfl (.inl rfl) (pe_op opn_shl pe_int (pv 0)))
    (pss_cons (ps_set (i := 2) scVf.nd rfl (.inl rfl) (pe_op opn_shl (pe_op op_subN (pe_op opn_shl pe_int (pv 1)) pe_int) (pv 1)))
    (pss_cons (ps_set (i := 3) scVf.nd rfl (.inl rfl) (pe_op op_mulN pe_int (pv 1)))
    (pss_cons (ps_while PassesOwn.never (pt_cmpR opn_lt (pv 3) (pe_gi rfl T.i_CASES) (nomark _))
      (pss_cons (ps_set (i := 2) scVf.nd rfl (.inl rfl) (pe_op opn_or (pv 2) (pe_op opn_shl (pv 2) (pv 3))))
      (pss_one (ps_set (i := 3) scVf.nd rfl (.inl rfl) (pe_op op_mulN pe_int (pv 3))))))
    (pss_one (ps_ret (pv 2)))))), ?_⟩)
  · obtain ⟨v, rfl, _⟩ := h
    rfl
  · obtain ⟨v, rfl, hv, q⟩ := h
    have p10 : ∀ k, k ≤ 10 → 2 ^ k ≤ 1024 := fun k hk => Nat.pow_le_pow_right (n := 2) (by decide) hk
    refine ⟨_, rfl, 1, v, 1, rfl, rfl, by decide, by omega, ?_⟩
    have hs := p10 v (by omega)
    rw [Nat.one_shiftLeft]
    refine ⟨_, rfl, 1, 2 ^ v, 1, rfl, rfl, by decide, by omega, ?_⟩
    refine ⟨_, 1, rfl, rfl, ?_, ?_⟩
    · rw [Nat.one_shiftLeft]
      exact Nat.two_pow_pos _
    refine ⟨_, rfl, ?_⟩
    refine ⟨_, _, 2 ^ v, rfl, rfl, ?_, by omega, ?_⟩
    · rw [Nat.one_shiftLeft]
      exact Nat.sub_lt (Nat.two_pow_pos _) (by decide)
    refine ⟨_, rfl, 2, 2 ^ v, rfl, rfl, by decide, ?_⟩
    refine while_by (fun σ H' => H' = H ∧ ∃ k, k ≤ 9 - v ∧ σ = [some (nV v), some (nV (2 ^ v)), some (nV (vpat v k)), some (nV (2 ^ (v + 1 + k)))])
      (fun σ _ => match σ with | [_, _, _, some (.int i)] => 1024 - i.toNat | _ => 0) ⟨rfl, 0, Nat.zero_le _, ?_⟩ ?_ ?_
    · show [some (nV v), some (nV (2 ^ v)), some (nV (((1 <<< 2 ^ v) - 1) <<< 2 ^ v)), some (nV (2 * 2 ^ v))] = _
      unfold vpat
      rw [Nat.one_shiftLeft v, dbl v]
    · rintro σ H' ⟨rfl, k, hk, rfl⟩
      refine ⟨_, rfl, _, 1024, rfl, rfl, _, rfl, ?_⟩
      by_cases c : 2 ^ (v + 1 + k) < 1024
      · rw [decide_eq_true c]
        refine iteT ?_
        have hk2 : k < 9 - v := by
          refine Classical.byContradiction fun z => ?_
          rw [show v + 1 + k = 10 by omega] at c
          exact absurd c (by decide)
        refine ⟨_, rfl, _, rfl, _, rfl, _, _, 1024, rfl, rfl, Nat.lt_of_lt_of_le (vpat_lt k) (Nat.pow_le_pow_right (by decide) (by omega)), by omega, ?_⟩
        refine ⟨_, _, rfl, rfl, ?_⟩
        refine ⟨_, rfl, 2, _, rfl, rfl, by decide, ?_⟩
        refine ⟨⟨rfl, k + 1, by omega, ?_⟩, ?_⟩
        · show [some (nV v), some (nV (2 ^ v)), some (nV (vpat v k ||| (vpat v k <<< 2 ^ (v + 1 + k)))), some (nV (2 * 2 ^ (v + 1 + k)))] = _
          rw [show 2 * 2 ^ (v + 1 + k) = 2 ^ (v + 1 + (k + 1)) by rw [Nat.mul_comm, ← Nat.pow_succ]; rfl]
          rfl
        · show 1024 - (((2 * 2 ^ (v + 1 + k) : Nat) : Int)).toNat < 1024 - (((2 ^ (v + 1 + k) : Nat) : Int)).toNat
          rw [Int.toNat_natCast, Int.toNat_natCast]
          have := Nat.two_pow_pos (v + 1 + k)
          omega
      · rw [decide_eq_false c]
        refine iteF ?_
        have hk2 : k = 9 - v := by
          refine Classical.byContradiction fun z => c ?_
          exact show 2 ^ (v + 1 + k) < 2 ^ 10 from Nat.pow_lt_pow_right (by decide) (show v + 1 + k < 10 by omega)
        subst hk2
        refine ⟨_, rfl, ?_⟩
        rw [vpat_end hv]
        exact q
    · intro σ H' Q1 Q2 hQ h
      obtain ⟨x, e1, n, m, e2, e3, b, e4, e5⟩ := h
      exact ⟨x, e1, n, m, e2, e3, b, e4, hQ _ _ e5⟩
end
end Ten
namespace Ten
open PySem PySem.Spec PyProof.Rows L2
/-! The methods of Cases that reckon with one or two functions. -/
section
variable {P : Program} {w : World} {K : PySem.W.Frag} {mg : Str → Option Value} {base : Heap} {a : Ad}
/-! ### opposite, constant, where -/
def spOpp (a : Ad) : Sp := fun vs H Q _ => ∃ (c : Addr) (f : Nat), vs = [.ref c, nV f] ∧ CasesAt a H c ∧ Q (nV (notN f)) H
theorem scOpp : FnScope ["self", "function"] ["self", "function"] (defScope s_Cases_opposite) := ⟨rfl, rfl, rfl, by decide +kernel, rfl, by decide +kernel, by decide +kernel⟩
theorem ok_opp (T : Txt K mg a) : FnOk P w K mg base CX0 1 a.f_Cases_opposite a.d_Cases_opposite ["self", "function"] (spOpp a) := by
  refine T.Cases_opposite.F.ok scOpp (fun vs H Q E h => ?_) (fun cdv A outer s H vs Q E hr h => ⟨_, pss_one (ps_ret (pe_op opn_xor (pe_fld (pv 0) rfl) (pv 1))), ?_⟩)
  · obtain ⟨c, f, rfl, _⟩ := h
    rfl
  · obtain ⟨c, f, rfl, ⟨dx, y, n, e1, e2, e3⟩, q⟩ := h
    exact ⟨_, rfl, c, _, dx, _, _, rfl, e1, T.cl_Cases, T.no_Cases_everywhere, csF_ev y n, _, rfl, EV, f, rfl, rfl, q⟩
def spConst (a : Ad) : Sp := fun vs H Q _ => ∃ (c : Addr) (z : Nat), vs = [.ref c, nV z] ∧ CasesAt a H c ∧ Q (nV (if z = 1 then EV else 0)) H
theorem scConst : FnScope ["self", "z"] ["self", "z"] (defScope s_Cases_constant) := ⟨rfl, rfl, rfl, by decide +kernel, rfl, by decide +kernel, by decide +kernel⟩
theorem ok_const (T : Txt K mg a) : FnOk P w K mg base CX0 1 a.f_Cases_constant a.d_Cases_constant ["self", "z"] (spConst a) := by
  refine T.Cases_constant.F.ok scConst (fun vs H Q E h => ?_) (fun cdv A outer s H vs Q E hr h => ⟨_, pss_one (ps_ret (pe_ifExp (pt_cmpR opn_eq (pv 1) pe_int (nomark _)) (pe_fld (pv 0) rfl) (pe_gi rfl T.i_NO_EVERYWHERE))), ?_⟩)
  · obtain ⟨c, f, rfl, _⟩ := h
    rfl
  · obtain ⟨c, z, rfl, ⟨dx, y, n, e1, e2, e3⟩, q⟩ := h
    refine ⟨_, rfl, z, 1, rfl, rfl, _, rfl, ?_⟩
    by_cases h1 : z = 1
    · rw [decide_eq_true h1]
      rw [if_pos h1] at q
      exact iteT ⟨_, rfl, c, _, dx, _, _, rfl, e1, T.cl_Cases, T.no_Cases_everywhere, csF_ev y n, q⟩
    · rw [decide_eq_false h1]
      rw [if_neg h1] at q
      exact iteF q
def spWhere (a : Ad) : Sp := fun vs H Q _ => ∃ (c : Addr) (f z : Nat), vs = [.ref c, nV f, nV z] ∧ CasesAt a H c ∧ Q (nV (whN f z)) H
theorem scWhere : FnScope ["self", "function", "z"] ["self", "function", "z"] (defScope s_Cases_where) := ⟨rfl, rfl, rfl, by decide +kernel, rfl, by decide +kernel, by decide +kernel⟩
theorem ok_where (T : Txt K mg a) : FnOk P w K mg base CX0 2 a.f_Cases_where a.d_Cases_where ["self", "function", "z"] (spWhere a) := by
  refine T.Cases_where.F.ok scWhere (fun vs H Q E h => ?_) (fun cdv A outer s H vs Q E hr h => ⟨_, pss_one (ps_ret (pe_ifExp (pt_cmpR opn_eq (pv 2) pe_int (nomark _)) (pv 1)
    (pe_meth (pv 0) T.cl_Cases T.Cases_opposite.M (ok_opp T) hr T.Cases_opposite.b .nil pass0 (pa_cons (pv 1) pa_nil)))), ?_⟩)
  · obtain ⟨c, f, z, rfl, _⟩ := h
    rfl
  · obtain ⟨c, f, z, rfl, C, q⟩ := h
    obtain ⟨dx, y, n, e1, e2, e3⟩ := id C
    refine ⟨_, rfl, z, 1, rfl, rfl, _, rfl, ?_⟩
    unfold whN at q
    by_cases h1 : z = 1
    · rw [decide_eq_true h1]
      rw [if_pos h1] at q
      exact iteT ⟨_, rfl, q⟩
    · rw [decide_eq_false h1]
      rw [if_neg h1] at q
      exact iteF ⟨_, rfl, c, dx, _, rfl, e1, csF_m y n (by decide +kernel), _, rfl, c, f, rfl, C, q⟩
/-! ### combined -/
def spComb (a : Ad) : Sp := fun vs H Q _ => ∃ (c : Addr) (op l r : Nat), vs = [.ref c, nV op, nV l, nV r] ∧ CasesAt a H c ∧ Q (nV (combN op l r)) H
theorem scComb : FnScope ["self", "op", "left", "right", "result", "x", "y"] ["self", "op", "left", "right"] (defScope s_Cases_combined) := ⟨rfl, rfl, rfl, by decide +kernel, rfl, by decide +kernel, by decide +kernel⟩
/-- the result behind i outer and j inner turns -/
def combI (op l r : Nat) : Nat → Nat → Nat
  | 0, 0 => 0
  | 0, 1 => combT op l r 0 0 0
  | 0, _ => combT op l r (combT op l r 0 0 0) 0 1
  | 1, 0 => combT op l r (combT op l r 0 0 0) 0 1
  | 1, 1 => combT op l r (combT op l r (combT op l r 0 0 0) 0 1) 1 0
  | _, _ => combN op l r
theorem combI_next (op l r : Nat) : ∀ i j, i < 2 → j < 2 → combT op l r (combI op l r i j) i j = combI op l r i (j + 1)
  | 0, 0, _, _ => rfl
  | 0, 1, _, _ => rfl
  | 1, 0, _, _ => rfl
  | 1, 1, _, _ => rfl
  | i + 2, _, h, _ => by omega
  | _, j + 2, _, h => by omega
theorem combI_row (op l r : Nat) : ∀ i, i < 2 → combI op l r i 2 = combI op l r (i + 1) 0
  | 0, _ => rfl
  | 1, _ => rfl
  | i + 2, h => by omega
theorem ok_comb (T : Txt K mg a) : FnOk P w K mg base CX0 3 a.f_Cases_combined a.d_Cases_combined ["self", "op", "left", "right"] (spComb a) := by
  refine T.Cases_combined.F.ok scComb (fun vs H Q E h => ?_) (fun cdv A outer s H vs Q E hr h => ⟨_, pss_cons (ps_set (i := 4) scComb.nd rfl (.inl rfl) (pe_gi rfl T.i_NO_EVERYWHERE))
    (pss_cons (ps_for PassesOwn.never rfl (pi_range1 rfl T.b_range (pa_cons pe_int pa_nil)) (pg_name (i := 5) scComb.nd rfl (.inl rfl))
      (pss_one (ps_for PassesOwn.never rfl (pi_range1 rfl T.b_range (pa_cons pe_int pa_nil)) (pg_name (i := 6) scComb.nd rfl (.inl rfl))
        (pss_one (ps_if (pt_cmpR opn_eq (pe_op opn_and (pe_op opn_shr (pv 1) (pe_op op_addN (pe_op op_mulN pe_int (pv 5)) (pv 6))) pe_int) pe_int (nomark _))
          (pss_one (ps_set (i := 4) scComb.nd rfl (.inl rfl) (pe_op opn_or (pv 4) (pe_op opn_and
            (pe_meth (pv 0) T.cl_Cases T.Cases_where.M (ok_where T) hr T.Cases_where.b .nil pass0 (pa_cons (pv 2) (pa_cons (pv 5) pa_nil)))
            (pe_meth (pv 0) T.cl_Cases T.Cases_where.M (ok_where T) hr T.Cases_where.b .nil pass0 (pa_cons (pv 3) (pa_cons (pv 6) pa_nil)))))))
          pss_nil)))))
    (pss_one (ps_ret (pv 4)))), ?_⟩)
  · obtain ⟨c, op, l, r, rfl, _⟩ := h
    rfl
  · obtain ⟨c, op, l, r, rfl, C, q⟩ := h
    obtain ⟨dx, y, n, e1, e2, e3⟩ := id C
    refine ⟨2, rfl, by decide, by decide, for_range (n := 2) (fun i σ H' => H' = H ∧ ∃ vx vy : Option V, σ = [some (.ref c), some (nV op), some (nV l), some (nV r), some (nV (combI op l r i 0)), vx, vy]) ⟨rfl, none, none, rfl⟩ ?_ ?_⟩
    · rintro i σ H' hi ⟨rfl, vx, vy, rfl⟩
      have ei : (0 : Int) + (i : Int) = (i : Int) := Int.zero_add _
      rw [ei]
      refine ⟨2, rfl, by decide, by decide, for_range (n := 2) (fun j σ H1 => H1 = H' ∧ ∃ vy : Option V, σ = [some (.ref c), some (nV op), some (nV l), some (nV r), some (nV (combI op l r i j)), some (nV i), vy]) ⟨rfl, vy, rfl⟩ ?_ ?_⟩
      · rintro j σ H1 hj ⟨rfl, vy, rfl⟩
        have ej : (0 : Int) + (j : Int) = (j : Int) := Int.zero_add _
        rw [ej]
        refine ⟨_, rfl, _, rfl, 2, i, rfl, rfl, by decide, _, rfl, 2 * i, j, rfl, rfl, op, 2 * i + j, rfl, rfl, _, 1, rfl, rfl, _, 1, rfl, rfl, _, rfl, ?_⟩
        have nx := combI_next op l r i j hi hj
        unfold combT at nx
        by_cases h1 : (op >>> (2 * i + j)) &&& 1 = 1
        · rw [if_pos h1] at nx
          rw [decide_eq_true h1]
          refine iteT ?_
          refine ⟨_, rfl, _, rfl, c, dx, _, rfl, e1, csF_m y n (by decide +kernel), _, rfl, _, rfl, c, l, i, rfl, C, ?_⟩
          refine ⟨_, rfl, c, dx, _, rfl, e1, csF_m y n (by decide +kernel), _, rfl, _, rfl, c, r, j, rfl, C, ?_⟩
          refine ⟨_, _, rfl, rfl, _, _, rfl, rfl, rfl, some (nV j), ?_⟩
          rw [← nx]
          rfl
        · rw [if_neg h1] at nx
          rw [decide_eq_false h1]
          refine iteF ⟨rfl, some (nV j), ?_⟩
          rw [← nx]
          rfl
      · rintro σ H1 ⟨rfl, vy, rfl⟩
        refine ⟨rfl, some (nV i), vy, ?_⟩
        rw [combI_row op l r i hi]
    · rintro σ H' ⟨rfl, vx, vy, rfl⟩
      exact ⟨_, rfl, q⟩
/-! ### chosen, fixed, composed, matters_to -/
def spChos (a : Ad) : Sp := fun vs H Q _ => ∃ (c : Addr) (d f g : Nat), vs = [.ref c, nV d, nV f, nV g] ∧ CasesAt a H c ∧ Q (nV (choN d f g)) H
theorem scChos : FnScope ["self", "condition", "then", "otherwise"] ["self", "condition", "then", "otherwise"] (defScope s_Cases_chosen) := ⟨rfl, rfl, rfl, by decide +kernel, rfl, by decide +kernel, by decide +kernel⟩
theorem ok_chos (T : Txt K mg a) : FnOk P w K mg base CX0 2 a.f_Cases_chosen a.d_Cases_chosen ["self", "condition", "then", "otherwise"] (spChos a) := by
  refine T.Cases_chosen.F.ok scChos (fun vs H Q E h => ?_) (fun cdv A outer s H vs Q E hr h => ⟨_, pss_one (ps_ret (pe_op opn_or (pe_op opn_and (pv 1) (pv 2))
    (pe_op opn_and (pe_meth (pv 0) T.cl_Cases T.Cases_opposite.M (ok_opp T) hr T.Cases_opposite.b .nil pass0 (pa_cons (pv 1) pa_nil)) (pv 3)))), ?_⟩)
  · obtain ⟨c, d, f, g, rfl, _⟩ := h
    rfl
  · obtain ⟨c, d, f, g, rfl, C, q⟩ := h
    obtain ⟨dx, y, n, e1, e2, e3⟩ := id C
    exact ⟨_, rfl, _, rfl, d, f, rfl, rfl, _, rfl, c, dx, _, rfl, e1, csF_m y n (by decide +kernel), _, rfl, c, d, rfl, C, _, rfl, _, g, rfl, rfl, _, _, rfl, rfl, q⟩
def spFix (a : Ad) : Sp := fun vs H Q _ => ∃ (c : Addr) (f v z : Nat), vs = [.ref c, nV f, nV v, nV z] ∧ CasesAt a H c ∧ f < Full ∧ v < 10 ∧ Q (nV (fixN f v (decide (z = 1)))) H
theorem scFix : FnScope ["self", "function", "variable", "z", "step", "half"] ["self", "function", "variable", "z"] (defScope s_Cases_fixed) := ⟨rfl, rfl, rfl, by decide +kernel, rfl, by decide +kernel, by decide +kernel⟩
theorem ok_fix (T : Txt K mg a) : FnOk P w K mg base CX0 1 a.f_Cases_fixed a.d_Cases_fixed ["self", "function", "variable", "z"] (spFix a) := by
  refine T.Cases_fixed.F.ok scFix (fun vs H Q E h => ?_) (fun cdv A outer s H vs Q E hr h => ⟨_, pss_cons (ps_set (i := 4) scFix.nd rfl (.inl rfl) (pe_op opn_shl pe_int (pv 2)))
    (pss_cons (ps_if (pt_cmpR opn_eq (pv 3) pe_int (nomark _))
      (pss_cons (ps_set (i := 5) scFix.nd rfl (.inl rfl) (pe_op opn_and (pv 1) (pe_ix ix_list (pe_fld (pv 0) rfl) (pv 2) (fun _ _ => rfl))))
      (pss_one (ps_ret (pe_op opn_or (pv 5) (pe_op opn_shr (pv 5) (pv 4)))))) pss_nil)
    (pss_cons (ps_set (i := 5) scFix.nd rfl (.inl rfl) (pe_op opn_and (pv 1) (pe_ix ix_list (pe_fld (pv 0) rfl) (pv 2) (fun _ _ => rfl))))
    (pss_one (ps_ret (pe_op opn_or (pv 5) (pe_op opn_shl (pv 5) (pv 4))))))), ?_⟩)
  · obtain ⟨c, f, v, z, rfl, _⟩ := h
    rfl
  · obtain ⟨c, f, v, z, rfl, C, hf, hv, q⟩ := h
    obtain ⟨dx, y, n, e1, e2, e3⟩ := id C
    refine ⟨_, rfl, 1, v, 1, rfl, rfl, by decide, by omega, ?_⟩
    refine ⟨_, rfl, z, 1, rfl, rfl, _, rfl, ?_⟩
    unfold fixN at q
    by_cases h1 : z = 1
    · rw [decide_eq_true h1] at q ⊢
      rw [if_pos rfl] at q
      refine iteT ?_
      refine ⟨_, rfl, _, rfl, c, _, dx, _, _, rfl, e1, T.cl_Cases, T.no_Cases_yes, csF_yes y n, _, rfl, y, _, _, _, rfl, rfl, SqL.of e2, at_nat (yes_at hv), f, _, rfl, rfl, ?_⟩
      exact ⟨_, rfl, _, rfl, _, rfl, _, _, rfl, rfl, _, _, rfl, rfl, q⟩
    · rw [decide_eq_false h1] at q ⊢
      rw [if_neg (by decide)] at q
      refine iteF ?_
      refine ⟨_, rfl, _, rfl, c, _, dx, _, _, rfl, e1, T.cl_Cases, T.no_Cases_no, csF_no y n, _, rfl, n, _, _, _, rfl, rfl, SqL.of e3, at_nat (no_at hv), f, _, rfl, rfl, ?_⟩
      have hs : 1 <<< v ≤ 1024 := by
        rw [Nat.one_shiftLeft]
        exact Nat.pow_le_pow_right (n := 2) (by decide) (show v ≤ 10 by omega)
      exact ⟨_, rfl, _, rfl, _, rfl, _, _, 1024, rfl, rfl, Nat.and_lt_two_pow _ (nfun_lt hv), by omega, _, _, rfl, rfl, q⟩
def spComp (a : Ad) : Sp := fun vs H Q _ => ∃ (c : Addr) (f v g : Nat), vs = [.ref c, nV f, nV v, nV g] ∧ CasesAt a H c ∧ f < Full ∧ v < 10 ∧ Q (nV (putN f v g)) H
theorem scComp : FnScope ["self", "function", "variable", "inner"] ["self", "function", "variable", "inner"] (defScope s_Cases_composed) := ⟨rfl, rfl, rfl, by decide +kernel, rfl, by decide +kernel, by decide +kernel⟩
theorem ok_comp (T : Txt K mg a) : FnOk P w K mg base CX0 3 a.f_Cases_composed a.d_Cases_composed ["self", "function", "variable", "inner"] (spComp a) := by
  refine T.Cases_composed.F.ok scComp (fun vs H Q E h => ?_) (fun cdv A outer s H vs Q E hr h => ⟨_, pss_one (ps_ret (pe_meth (pv 0) T.cl_Cases T.Cases_chosen.M (ok_chos T) hr T.Cases_chosen.b .nil pass0
    (pa_cons (pv 3) (pa_cons (pe_meth (pv 0) T.cl_Cases T.Cases_fixed.M (ok_fix T) (hr.mono (by decide)) T.Cases_fixed.b .nil pass0 (pa_cons (pv 1) (pa_cons (pv 2) (pa_cons pe_int pa_nil))))
    (pa_cons (pe_meth (pv 0) T.cl_Cases T.Cases_fixed.M (ok_fix T) (hr.mono (by decide)) T.Cases_fixed.b .nil pass0 (pa_cons (pv 1) (pa_cons (pv 2) (pa_cons pe_int pa_nil)))) pa_nil))))), ?_⟩)
  · obtain ⟨c, f, v, g, rfl, _⟩ := h
    rfl
  · obtain ⟨c, f, v, g, rfl, C, hf, hv, q⟩ := h
    obtain ⟨dx, y, n, e1, e2, e3⟩ := id C
    refine ⟨_, rfl, c, dx, _, rfl, e1, csF_m y n (by decide +kernel), _, rfl, ?_⟩
    refine ⟨_, rfl, c, dx, _, rfl, e1, csF_m y n (by decide +kernel), _, rfl, _, rfl, c, f, v, 1, rfl, C, hf, hv, ?_⟩
    refine ⟨_, rfl, c, dx, _, rfl, e1, csF_m y n (by decide +kernel), _, rfl, _, rfl, c, f, v, 0, rfl, C, hf, hv, ?_⟩
    exact ⟨c, g, _, _, rfl, C, q⟩
def spMat (a : Ad) : Sp := fun vs H Q _ => ∃ (c : Addr) (v f : Nat), vs = [.ref c, nV v, nV f] ∧ CasesAt a H c ∧ f < Full ∧ v < 10 ∧ Q (.bl (hang f v)) H
theorem scMat : FnScope ["self", "variable", "function"] ["self", "variable", "function"] (defScope s_Cases_matters_to) := ⟨rfl, rfl, rfl, by decide +kernel, rfl, by decide +kernel, by decide +kernel⟩
theorem hang_ne (f v : Nat) : hang f v = !decide (fixN f v false = fixN f v true) := by
  unfold hang
  by_cases h : fixN f v false = fixN f v true
  · rw [decide_eq_true h, decide_eq_false fun z => z h]
    rfl
  · rw [decide_eq_false h, decide_eq_true h]
    rfl
theorem ok_mat (T : Txt K mg a) : FnOk P w K mg base CX0 2 a.f_Cases_matters_to a.d_Cases_matters_to ["self", "variable", "function"] (spMat a) := by
  refine T.Cases_matters_to.F.ok scMat (fun vs H Q E h => ?_) (fun cdv A outer s H vs Q E hr h => ⟨_, pss_one (ps_ret (pe_cmpR opn_ne
    (pe_meth (pv 0) T.cl_Cases T.Cases_fixed.M (ok_fix T) hr T.Cases_fixed.b .nil pass0 (pa_cons (pv 2) (pa_cons (pv 1) (pa_cons pe_int pa_nil))))
    (pe_meth (pv 0) T.cl_Cases T.Cases_fixed.M (ok_fix T) hr T.Cases_fixed.b .nil pass0 (pa_cons (pv 2) (pa_cons (pv 1) (pa_cons pe_int pa_nil)))) (nomark _))), ?_⟩)
  · obtain ⟨c, v, f, rfl, _⟩ := h
    rfl
  · obtain ⟨c, v, f, rfl, C, hf, hv, q⟩ := h
    obtain ⟨dx, y, n, e1, e2, e3⟩ := id C
    rw [hang_ne] at q
    refine ⟨_, rfl, c, dx, _, rfl, e1, csF_m y n (by decide +kernel), _, rfl, _, rfl, c, f, v, 0, rfl, C, hf, hv, ?_⟩
    exact ⟨_, rfl, c, dx, _, rfl, e1, csF_m y n (by decide +kernel), _, rfl, _, rfl, c, f, v, 1, rfl, C, hf, hv, _, _, rfl, rfl, q⟩
/-! ### mattering -/
def spMtg (a : Ad) : Sp := fun vs H Q _ => ∃ (c : Addr) (f : Nat), vs = [.ref c, nV f] ∧ CasesAt a H c ∧ f < Full ∧ ∀ H' p, Same H H' → H p = none → H' p = some (.lst (nVs (hangs f))) → Q (.ref p) H'
theorem scMtg : FnScope ["self", "function", "variable"] ["self", "function"] (defScope s_Cases_mattering) := ⟨rfl, rfl, rfl, by decide +kernel, rfl, by decide +kernel, by decide +kernel⟩
theorem filter_next (p : Nat → Bool) (i : Nat) : (List.range (i + 1)).filter p = (List.range i).filter p ++ if p i = true then [i] else [] := by
  rw [List.range_succ, List.filter_append, List.filter_cons]
  split <;> rfl
theorem ok_mtg (T : Txt K mg a) : FnOk P w K mg base CX0 3 a.f_Cases_mattering a.d_Cases_mattering ["self", "function"] (spMtg a) := by
  refine T.Cases_mattering.F.ok scMtg (fun vs H Q E h => ?_) (fun cdv A outer s H vs Q E hr h => ⟨_, pss_one (ps_ret (pe_lc (own := [("variable", 2)]) (g := gName 2) rfl scMtg.nd (pi_range1 rfl T.b_range (pa_cons (pe_gi rfl T.i_VARIABLES) pa_nil))
    (blkOk_by (N := ["self", "function", "variable"]) (sc := defScope s_Cases_mattering) (by decide +kernel)) (fun _ _ _ _ _ => pg_name (i := 2) scMtg.nd rfl (Or.inl rfl))
    (fun _ _ _ _ _ => pts_one (pt_val (pe_meth (pv 0) T.cl_Cases T.Cases_matters_to.M (ok_mat T) hr T.Cases_matters_to.b .nil pass0 (pa_cons (pv 2) (pa_cons (pv 1) pa_nil))))) (fun _ _ _ _ _ => pv 2))), ?_⟩)
  · obtain ⟨c, f, rfl, _⟩ := h
    rfl
  · obtain ⟨c, f, rfl, C, hf, q⟩ := h
    refine ⟨10, rfl, by decide, by decide, fun D hD => lc_range (lo := 0) (n := 10) (fun i H' => Same H H' ∧ H' D = some (.lst (nVs ((List.range i).filter (hang f))))) ⟨Same.upd hD, upd_same⟩ ?_ ?_⟩
    · rintro i H' hi ⟨s1, eD⟩
      have ei : (0 : Int) + (i : Int) = (i : Int) := Int.zero_add _
      rw [ei]
      have C' := C.same s1
      obtain ⟨dx, y, n, e1, e2, e3⟩ := id C'
      refine ⟨rfl, _, rfl, c, dx, _, rfl, e1, csF_m y n (by decide +kernel), _, rfl, _, rfl, c, i, f, rfl, C', hf, hi, _, rfl, ?_⟩
      have nx := filter_next (hang f) i
      cases hh : hang f i with
      | true =>
        rw [hh, if_pos rfl] at nx
        refine iteT ⟨_, rfl, _, eD, ?_, ?_, ?_⟩
        · rw [nVs_len]
          exact Nat.lt_of_le_of_lt (List.length_filter_le _ _) (by rw [List.length_range]; exact Nat.lt_trans hi (by decide))
        · exact fun b o e => by
            rw [upd_ne (fun z => by rw [z, hD] at e; cases e)]
            exact s1 b o e
        · rw [upd_same, nx, ← nVs_app]
          rfl
      | false =>
        rw [hh, if_neg (by decide), List.append_nil] at nx
        refine iteF ⟨s1, ?_⟩
        rw [nx]
        exact eD
    · rintro H' ⟨s1, eD⟩
      exact q H' D s1 hD eD
/-! ### how_many -/
def spHm (a : Ad) : Sp := fun vs H Q _ => ∃ (c : Addr) (f : Nat), vs = [.ref c, nV f] ∧ CasesAt a H c ∧ Q (nV (hmN f)) H
theorem scHm : FnScope ["self", "function", "sums", "variable", "step"] ["self", "function"] (defScope s_Cases_how_many) := ⟨rfl, rfl, rfl, by decide +kernel, rfl, by decide +kernel, by decide +kernel⟩
theorem ok_hm (T : Txt K mg a) : FnOk P w K mg base CX0 1 a.f_Cases_how_many a.d_Cases_how_many ["self", "function"] (spHm a) := by
  refine T.Cases_how_many.F.ok scHm (fun vs H Q E h => ?_) (fun cdv A outer s H vs Q E hr h => ⟨_, pss_cons (ps_set (i := 2) scHm.nd rfl (.inl rfl) (pv 1))
    (pss_cons (ps_for PassesOwn.never rfl (pi_range1 rfl T.b_range (pa_cons (pe_gi rfl T.i_VARIABLES) pa_nil)) (pg_name (i := 3) scHm.nd rfl (.inl rfl))
      (pss_cons (ps_set (i := 4) scHm.nd rfl (.inl rfl) (pe_op opn_shl pe_int (pv 3)))
      (pss_one (ps_set (i := 2) scHm.nd rfl (.inl rfl) (pe_op op_addN (pe_op opn_and (pv 2) (pe_ix ix_list (pe_fld (pv 0) rfl) (pv 3) (fun _ _ => rfl)))
        (pe_op opn_shr (pe_op opn_and (pv 2) (pe_ix ix_list (pe_fld (pv 0) rfl) (pv 3) (fun _ _ => rfl))) (pv 4)))))))
    (pss_one (ps_ret (pv 2)))), ?_⟩)
  · obtain ⟨c, f, rfl, _⟩ := h
    rfl
  · obtain ⟨c, f, rfl, C, q⟩ := h
    obtain ⟨dx, y, n, e1, e2, e3⟩ := id C
    refine ⟨_, rfl, 10, rfl, by decide, by decide, for_range (n := 10) (fun i σ H' => H' = H ∧ ∃ vx vy : Option V, σ = [some (.ref c), some (nV f), some (nV ((List.range i).foldl hmT f)), vx, vy]) ⟨rfl, none, none, rfl⟩ ?_ ?_⟩
    · rintro i σ H' hi ⟨rfl, vx, vy, rfl⟩
      have ei : (0 : Int) + (i : Int) = (i : Int) := Int.zero_add _
      rw [ei]
      refine ⟨_, rfl, 1, i, 1, rfl, rfl, by decide, by omega, ?_⟩
      refine ⟨_, rfl, _, rfl, c, _, dx, _, _, rfl, e1, T.cl_Cases, T.no_Cases_no, csF_no y n, _, rfl, n, _, _, _, rfl, rfl, SqL.of e3, at_nat (no_at hi), _, _, rfl, rfl, ?_⟩
      refine ⟨_, rfl, _, rfl, c, _, dx, _, _, rfl, e1, T.cl_Cases, T.no_Cases_yes, csF_yes y n, _, rfl, y, _, _, _, rfl, rfl, SqL.of e2, at_nat (yes_at hi), _, _, rfl, rfl, ?_⟩
      refine ⟨_, rfl, _, _, rfl, rfl, _, _, rfl, rfl, rfl, some (nV i), some (nV (1 <<< i)), ?_⟩
      rw [List.range_succ, List.foldl_append]
      rfl
    · rintro σ H' ⟨rfl, vx, vy, rfl⟩
      exact ⟨_, rfl, q⟩
/-! ### says, least_case -/
def spSays : Sp := fun vs H Q _ => ∃ (f m : Nat), vs = [nV f, nV m] ∧ Q (nV ((f >>> m) &&& 1)) H
theorem scSays : FnScope ["function", "case"] ["function", "case"] (defScope s_says) := ⟨rfl, rfl, rfl, by decide +kernel, rfl, by decide +kernel, by decide +kernel⟩
theorem ok_says (T : Txt K mg a) : FnOk P w K mg base CX0 1 a.f_says a.d_says ["function", "case"] spSays := by
  refine T.says.F.ok scSays (fun vs H Q E h => ?_) (fun cdv A outer s H vs Q E hr h => ⟨_, pss_one (ps_ret (pe_op opn_and (pe_op opn_shr (pv 0) (pv 1)) pe_int)), ?_⟩)
  · obtain ⟨f, m, rfl, _⟩ := h
    rfl
  · obtain ⟨f, m, rfl, q⟩ := h
    exact ⟨_, rfl, _, rfl, f, m, rfl, rfl, _, 1, rfl, rfl, q⟩
def optV : Option Nat → V
  | none => .non
  | some n => nV n
def spLeast : Sp := fun vs H Q _ => ∃ (f m : Nat), vs = [nV f, nV m] ∧ f < Full ∧ Q (optV (leastN f m)) H
theorem scLeast : FnScope ["function", "start", "rest", "lowest"] ["function", "start"] (defScope s_least_case) := ⟨rfl, rfl, rfl, by decide +kernel, rfl, by decide +kernel, by decide +kernel⟩
/-- r & -r -/
theorem and_neg (t q : Nat) : Builtin.bitAnd ((2 ^ t * (2 * q + 1) : Nat) : Int) (-((2 ^ t * (2 * q + 1) : Nat) : Int)) = ((2 ^ t : Nat) : Int) := by
  have hp : 0 < 2 ^ t * (2 * q + 1) := Nat.mul_pos (Nat.two_pow_pos t) (by omega)
  have la := low_and t q
  have e0 : 2 ^ t * (2 * q + 1) = 2 ^ t * (2 * q) + 2 ^ t := by rw [Nat.mul_add, Nat.mul_one]
  generalize hr : 2 ^ t * (2 * q + 1) = r at hp la e0
  unfold Builtin.bitAnd
  rw [decide_eq_true (Int.natCast_nonneg r), decide_eq_false (show ¬ 0 ≤ -(r : Int) by omega)]
  show (r : Int) - (((r : Int).toNat &&& (Builtin.bitNot (-(r : Int))).toNat : Nat) : Int) = _
  have e1 : (Builtin.bitNot (-(r : Int))).toNat = r - 1 := by
    show (-(-(r : Int)) - 1).toNat = r - 1
    omega
  rw [e1, Int.toNat_natCast, la]
  omega
theorem bits_pow (t : Nat) : Builtin.Int.intBits ((2 ^ t : Nat) : Int) = t + 1 := by
  have hp := Nat.two_pow_pos t
  unfold Builtin.Int.intBits
  rw [if_neg (by simpa using (show ((2 ^ t : Nat) : Int) ≠ 0 by omega)), Int.natAbs_natCast, Nat.log2_two_pow]
theorem ok_least (T : Txt K mg a) : FnOk P w K mg base CX0 1 a.f_least_case a.d_least_case ["function", "start"] spLeast := by
  refine T.least_case.F.ok scLeast (fun vs H Q E h => ?_) (fun cdv A outer s H vs Q E hr h => ⟨_, pss_cons (ps_if (pt_cmpR opn_ge (pv 1) (pe_gi rfl T.i_CASES) (nomark _)) (pss_one (ps_ret pe_non)) pss_nil)
    (pss_cons (ps_set (i := 2) scLeast.nd rfl (.inl rfl) (pe_op opn_shr (pv 0) (pv 1)))
    (pss_cons (ps_if (pt_cmpR opn_eq (pv 2) pe_int (nomark _)) (pss_one (ps_ret pe_non)) pss_nil)
    (pss_cons (ps_set (i := 3) scLeast.nd rfl (.inl rfl) (pe_op op_and (pv 2) (pe_un un_neg (pv 2))))
    (pss_one (ps_ret (pe_op op_sub (pe_op op_addN (pv 1) (pe_bits (pv 3))) pe_int)))))), ?_⟩)
  · obtain ⟨f, m, rfl, _⟩ := h
    rfl
  · obtain ⟨f, m, rfl, hf, q⟩ := h
    refine ⟨_, rfl, m, 1024, rfl, rfl, _, rfl, ?_⟩
    by_cases c : 1024 ≤ m
    · rw [decide_eq_true c]
      rw [least_far c] at q
      exact iteT q
    · rw [decide_eq_false c]
      refine iteF ?_
      refine ⟨_, rfl, _, rfl, f, m, rfl, rfl, ?_⟩
      refine ⟨_, rfl, _, 0, rfl, rfl, _, rfl, ?_⟩
      by_cases z : f >>> m = 0
      · rw [decide_eq_true z]
        rw [least_none z] at q
        exact iteT q
      · rw [decide_eq_false z]
        refine iteF ?_
        obtain ⟨t, r, e⟩ := low_form (f >>> m) (Nat.pos_of_ne_zero z)
        rw [least_some hf e] at q
        refine ⟨_, rfl, _, rfl, _, rfl, _, _, rfl, rfl, ?_⟩
        refine ⟨_, rfl, _, rfl, _, rfl, m, _, rfl, rfl, _, 1, rfl, rfl, ?_⟩
        have e2 : Builtin.Int.intBits (Builtin.bitAnd ((f >>> m : Nat) : Int) (-((f >>> m : Nat) : Int))) = t + 1 := by
          rw [e, and_neg, bits_pow]
        rw [e2]
        have e3 : ((m + (t + 1) : Nat) : Int) - 1 = ((m + t : Nat) : Int) := by omega
        show Q (.int (((m + (t + 1) : Nat) : Int) - 1)) H
        rw [e3]
        exact q
end
end Ten
namespace Ten
open PySem PySem.Spec PyProof.Rows L2
/-! The program's own errors: classes over Exception, each with an __init__ that calls its base's by the base's name. -/
abbrev BMx : List Value := [.type "Exception", .type "BaseException", .type "object"]
/-- what the written part tells of such a class -/
structure XC (K : PySem.W.Frag) (C : Addr) : Prop where
  ini : PySem.W.excInitIn K C BMx "Exception.__new__" = true
  over : PySem.W.excOver K C BMx = true
  hd : PySem.W.hasDictIn K C = true
  sa : PySem.W.findIn K (.ref C) "__setattr__" = some (some (.builtin "object.__setattr__"))
  no : PySem.W.findIn K (.ref C) "number" = some none
  xf : XfC K C
theorem TExc.xc {K : PySem.W.Frag} {mg : Str → Option Value} {x : Str} {C fI R : Addr} (T : TExc K mg x C fI R) : XC K C := ⟨T.ini, T.over, T.hd, T.sa, T.no, T.ga, T.gg, T.exC, T.hd⟩
section
open Builtin Builtin.ObjectAttr
variable {prog : Program} {w : World} {A : Around} {R : Result → Shared → Prop} {hp : Heap} {g : Array GenState} {d : Drawn} {t : Nat} {os : OsState}
/-- object.__setattr__ of an error that has no dict yet -/
theorem x_store {K : PySem.W.Frag} {name : Str} {tk : Tok} {v : Value} {x C : Addr} {fv : Array Value}
    (X : K.In hp) (hx : hp.get? x = some { cls := .ref C, data := .fields fv }) (T : XC K C) (ha : PySem.W.findIn K (.ref C) name = some none)
    (hq : ∀ h' tk' dx, (∀ b o, b ≠ x → hp.get? b = some o → h'.get? b = some o) → hp.objs.size ≤ dx → dx ≠ x → h'.get? x = some { cls := .ref C, dict := some dx, data := .fields fv } →
      h'.Ns1 dx (fun y => if y = name then some v else none) → R (.ok (.ret .none)) ⟨h', g, d, tk', os⟩) :
    codeAny (model prog w) A (.call (.builtin "object.__setattr__") ⟨[.ref x, .str name tk, v], []⟩) R ⟨hp, g, d, t, os⟩ := by
  have hxs : x ≠ hp.objs.size := Nat.ne_of_lt (Heap.lt_size hx)
  have ht : PySem.W.takerIn K C name = some none := NoAttr.taker ha
  obtain ⟨cd, hcd, hh⟩ := PySem.W.any_some T.hd
  refine PySem.W.osa_openX (s := ⟨hp, g, d, t, os⟩) (ox := { cls := .ref C, data := .fields fv }) (od := none) F.store_Exception X ⟨hx, rfl, rfl, trivial⟩ T.over ht fun b => ?_
  have hcls : PySem.W.Looks (model prog w) hp (classData C) cd := PySem.W.looks_clsIn X hcd
  obtain ⟨nm, bs, mro, ns, qn, hdd, sn, sb, ab, col, del⟩ := cd
  dsimp only at hh
  subst hh
  dsimp only
  unfold storeInOwnDict ownDictForStores
  repeat (first | with_reducible refine HandSPX.store_in_new ?_ ?_ | with_reducible refine wpAny_loadPart_at hx ?_ | with_reducible refine hcls.at ?_ | wp_step)
  · exact ⟨_, #[], _, (Heap.get?_update_ne _ _ _ _ hxs.symm).trans (Heap.get?_push_at rfl rfl), rfl, fun e he => absurd he (by simp), fun _ => rfl⟩
  · intro h' tk' hn' hs
    have hx₁ : (hp.push { cls := .type "dict", data := .dict #[] }).get? x = some { cls := .ref C, data := .fields fv } := Heap.get?_push_of_some _ hx
    refine hq h' tk' hp.objs.size (fun b o hb ho => ?_) (Nat.le_refl _) hxs.symm ?_ hn'
    · exact (hs.2 b (Nat.ne_of_lt (Heap.lt_size ho))).trans ((Heap.get?_update_ne _ _ _ _ hb).trans (Heap.get?_push_of_some _ ho))
    · exact (hs.2 x hxs).trans (Heap.get?_update_self _ hx₁ rfl)
end
section
variable {X : Cx} {pins : List (Addr × Obj)} {σ : L2.St} {H : Hp} {s : Shared} {x C : Addr} {f : Str} {y : V} {u : Value} {Q : Unit → Shared → Prop} {E : Value → Shared → Prop} {A : Around}
theorem x_set (T : XC X.K C) (I : Inv X pins σ H s) (e : H x = some (exo x C none)) (hno : PySem.W.findIn X.K (.ref C) f = some none) (ry : RelV y u)
    (h : ∀ dx s', H dx = none → dx ≠ x → Inv X pins σ (upd (upd H dx (exd dx [(f, y)])) x (exo x C (some dx))) s' → Q () s') : wpAny (model X.prog X.w) A (setAttr (.ref x) f u) Q E s := by
  obtain ⟨t1, ho⟩ := exo_at I.hok e
  obtain ⟨hp, g, d, t, os⟩ := s
  refine PySem.W.set_plain I.kIn (ox := { cls := .ref C, dict := none, data := .fields #[.ref t1, .none, .none, .none, .bool false, .none] }) (od := none) ⟨ho, rfl, rfl, trivial⟩ T.sa ?_
  refine x_store I.kIn ho T hno fun h' tk' dx k dn dne hx hn => ?_
  have hnd : H dx = none := I.hok.fresh dn
  have nd : ∀ {b : Addr} {o : Obj}, hp.get? b = some o → b ≠ dx := fun {b o} q => Nat.ne_of_lt (Nat.lt_of_lt_of_le (Heap.lt_size q) dn)
  have na : ∀ {b : Addr}, H b = none → b ≠ x := fun {b} n z => by
    rw [z, e] at n
    cases n
  have un : Un X.fs [] H (upd (upd H dx (exd dx [(f, y)])) x (exo x C (some dx))) hp h' := by
    refine ⟨fun b o q n _ _ => k b o (na n) q, fun b o q n _ _ => ⟨o.slots, k b o (na n) q⟩, fun b o q n _ => ?_, fun b o q _ => ?_, fun b xs q => ?_, fun b o v q => ?_, fun b ps q => ⟨#[], ?_⟩⟩
    · rw [upd_ne (na n), upd_ne (nd q)]
      exact n
    · by_cases hb : b = x
      · rw [hb]
        exact ⟨_, hx⟩
      · exact ⟨o, k b o hb q⟩
    · rw [upd_ne (at_ne e q exo_tup), upd_ne (ne_of_none q hnd)]
      exact q
    · rw [upd_ne (at_ne e q exo_frz), upd_ne (ne_of_none q hnd)]
      exact q
    · rw [upd_ne (at_ne e q exo_tbl), upd_ne (ne_of_none q hnd), q]
      simp
  refine h dx _ hnd dne (I.un (t' := tk') un fun b o q => ?_)
  by_cases hb : b = x
  · subst hb
    rw [upd_same] at q
    cases q
    exact exo_ok hx
  · rw [upd_ne hb] at q
    by_cases hd : b = dx
    · subst hd
      rw [upd_same] at q
      cases q
      exact exd_ok hn (relO_put (fs := []) ry fun g => True.intro)
    · rw [upd_ne hd] at q
      refine (I.hok b o q).stay (fun c v hc z => k c v ?_ z) (fun c hc => ?_) (fun c xs hc => ?_)
      · rcases hc with hc | hc
        · rw [hc]
          exact hb
        · exact at_ne e hc exo_own
      · rw [upd_ne (at_ne e hc exo_own), upd_ne (ne_of_none hc hnd)]
        exact hc
      · rw [upd_ne (at_ne e hc exo_tup), upd_ne (ne_of_none hc hnd)]
        exact hc
end
/-- self.f = e, self an error without a dict -/
def tXSet (K : PySem.W.Frag) (f : Str) (to te : TE) : TS := fun D σ H => te σ H fun y H1 => to σ H1 fun x H2 => ∃ a C : Addr, x = .ref a ∧ XC K C ∧ PySem.W.findIn K (.ref C) f = some none ∧ H2 a = some (exo a C none) ∧
  ∀ dx, H2 dx = none → dx ≠ a → D.nx σ (upd (upd H2 dx (exd dx [(f, y)])) a (exo a C (some dx)))
/-- C(), C's own __init__ keeping sp -/
def tXMk (C : Addr) (sp : Sp) : L2.St → Hp → XK → Prop := fun _ H Q => ∀ a, H a = none → sp [.ref a] (upd H a (exo a C none))
  (fun v H2 => v = .non ∧ ∃ (d : Addr) (fs : List (Str × V)), H2 a = some (exo a C (some d)) ∧ H2 d = some (exd d fs) ∧ H d = none ∧ Q (.ref C) (some d) (upd (del H2 a) d (.xd fs))) (fun _ _ _ => False)
/-- n.f in the suite that holds the error -/
def tXGet (K : PySem.W.Frag) (a : Addr) (cls : Value) (d : Option Addr) (f : Str) (te : TE) : TE := fun σ H Q => te σ H fun x H1 => x = .ref a ∧ ∃ C : Addr, cls = .ref C ∧ XC K C ∧ PySem.W.findIn K (.ref C) f = some none ∧
  ∃ (dd : Addr) (fs : List (Str × V)) (v : V), d = some dd ∧ H1 dd = some (.xd fs) ∧ fs.lookup f = some v ∧ Q v H1
section
variable {X : Cx} {o e : Expr} {es : List Expr} {to te : TE} {ta : TA} {f : Str} {p p' p1 p2 pos : Pos}
theorem ps_xset (ho : PE X o to) (he : PE X e te) (hs : swapsWith e (some (.Attribute o f p')) pos.line X.env = pure false := by rfl) : PS X (.Assign [.Attribute o f p'] e pos) (tXSet X.K f to te) := by
  refine ⟨fun pins s σ H D I h => ?_⟩
  refine plainObj_wpAny_Assign_Attribute (thn (he.run pins s σ H _ I h) fun v s1 ⟨y, H1, I1, r1, q1⟩ => thn (ho.run pins s1 σ H1 _ I1 q1) fun u s2 ⟨x, H2, I2, r2, a, C, ex, T, hno, ea, q⟩ => ?_) hs
  subst ex
  obtain rfl : u = Value.ref a := r2
  exact x_set T I2 ea hno r1 fun dx s' n ne J => ⟨σ, _, J, q dx n ne⟩
theorem pe_xget {a : Addr} {oe : Obj} {cls : Value} {d : Option Addr} {pn : List (Addr × Obj)} (hz : Zc cls d oe) (hf : ∃ vs, oe.data = .fields vs) (he : PE (X.suite a ((a, oe) :: pn)) e te) (hb : attributeBase e f X.env (eval e X.env) = eval e X.env := by rfl) :
    PE (X.suite a ((a, oe) :: pn)) (.Attribute e f pos) (tXGet X.K a cls d f te) := by
  refine ⟨fun pins s σ H Q I h => ?_⟩
  have h' : te σ H fun x H1 => x = .ref a ∧ ∃ C : Addr, cls = .ref C ∧ XC X.K C ∧ PySem.W.findIn X.K (.ref C) f = some none ∧ ∃ (dd : Addr) (fs : List (Str × V)) (v : V), d = some dd ∧ H1 dd = some (.xd fs) ∧ fs.lookup f = some v ∧ Q v H1 := h
  refine attr_of hb (thn (he.run pins s σ H _ I h') fun u s1 hh => ?_)
  obtain ⟨x, H1, I1, rx, ex, C, ec, T, hno, dd, fs, v, ed, ea, l, q⟩ := hh
  subst ex
  obtain rfl : u = Value.ref a := rx
  subst ec
  subst ed
  obtain ⟨ha, _⟩ := I1.pin (a, oe) (List.mem_append_left _ List.mem_cons_self)
  obtain ⟨vs, hd⟩ := hf
  have hx : ObjOk X.prog X.w H1 s1.heap dd (.xd fs) := I1.hok dd _ ea
  obtain ⟨mA, hns, hr⟩ := hx
  obtain ⟨od, ho, hl⟩ := lookIn_ns hns
  obtain ⟨u, hu, ru⟩ := RelO.some_of (v := v) (o := mA f) (by rw [← l]; exact hr f)
  have J : PySem.W.InstAt s1.heap a oe C (some od) := ⟨ha, hz.1, by unfold PySem.W.notCls; rw [hd] <;> rfl, by rw [hz.2]; exact ho⟩
  exact HandSPX.exc_get I1.kIn J T.xf.ga T.xf.gg T.xf.exC (PySem.W.findObj_own T.hd hno rfl (by rw [hl, hu])) (handed_of ru) ⟨v, H1, I1.tok _, ru, q⟩
/-- R.m(e, ..), R a class of the top, m a def of it -/
theorem pe_clsdef {CX : CXT} {k : Nat} {x m : Str} {R fI : Addr} {fd : FuncData} {ps : List Str} {sp : Sp} {ds : List Value} {dvs : List V} {E : XK} {pl : Sem Bool} (hg : Gl X x) (hm : X.mg x = some (.ref R)) (rd : PySem.W.readsIn X.K R (.type "type") = true)
    (ga : PySem.W.specialIn X.K (.ref R) "__getattribute__" = some (some (.builtin "type.__getattribute__"))) (fc : PySem.W.findCls X.K (.ref R) (.type "type") m = some (.val (.ref fI))) (hk : PySem.W.keepIn X.K (.ref fI) = true)
    (F1 : FnOk X.prog X.w X.K X.mg X.base CX k fI fd ps sp) (hr : Room k X.A) (hb : Binds X.K fd ps ds) (hd : Vals dvs ds) (hx : Passes CX X E) (ha : PA X (e :: es) ta) (hdb : (x == ("__debug__" : Str)) = false := by decide)
    (hst : starEach (e :: es) X.env = (false, eval e X.env) :: starEach es X.env := by rfl) (hpl : (backTo pos (starEach es X.env)).any (·.1) = false := by rfl)
    (ht : eval (.Call (.Attribute (.Name x p) m p2) (e :: es) [] pos) X.env = (do
      let ov ← eval (.Name x p) X.env
      standAt p2.atName
      let (f, first) ← holding [ov] (getMethod ov m pl)
      callWith pos f first (backTo pos (starEach (e :: es) X.env)) (backToKw pos (keywordEach [] X.env))) := by rfl) :
    PE X (.Call (.Attribute (.Name x p) m p2) (e :: es) [] pos) (tCall sp dvs E ta) := by
  refine ⟨fun pins s σ H Q I h => ?_⟩
  refine PySem.W.methodCall_KW (pl := pl) (ld_glob I hg hm ?_ hdb) ht
  refine PySem.W.method_cls I.kIn ga (PySem.W.cls_value I.kIn rd fc rfl ?_)
  refine PySem.W.callWith_K (first := []) (h₀ := X.base) I.ok.mod.kin hk (thn (ha.run pos pins _ σ H _ (I.tok _) h) fun us s1 ⟨vs, H1, I1, r, q⟩ => ⟨I1.kIn, ?_⟩) hst hpl
  exact run_fn F1 hr hb hd hx I1 r q
/-- C() -/
theorem pmk_x {CX : CXT} {x : Str} {C R fI : Addr} {k : Nat} {fd : FuncData} {ps : List Str} {sp : Sp} (T : TExc X.K X.mg x C fI R)
    (F1 : FnOk X.prog X.w X.K X.mg X.base CX k fI fd ps sp) (hr : Room (k + 1) X.A) (hb : Binds X.K fd ps []) (hx : Passes CX X (fun _ _ _ => False)) (hg : Gl X x) (hdb : (x == ("__debug__" : Str)) = false := by decide) :
    PMk X (.Call (.Name x p) [] [] pos) (tXMk C sp) := by
  intro pins s σ H Q I h
  refine wpAny_Call_Name_kw (ld_glob I hg T.g ?_ hdb)
  refine PySem.W.callWith_K0 I.kIn T.kC ?_
  obtain ⟨nm, N, qn, bs, bm, hdct, sn, sub, ab, col, dd, k0, k1, k2, k3, k5, hC, hT⟩ := PySem.W.excInit_of I.kIn T.ini
  obtain ⟨hp, g, dr, tk, os⟩ := s
  have hsz : hp.objs.size ≤ hp.objs.size + 1 := Nat.le_succ _
  have hn : H (hp.objs.size + 1) = none := I.hok.fresh hsz
  have hq := h (hp.objs.size + 1) hn
  have kk : ∀ b o, hp.get? b = some o → ((hp.push (PySem.W.kdv_tup [])).push (PySem.HandSPX.excO C hp.objs.size)).get? b = some o := fun b o e => Heap.get?_push_of_some _ (Heap.get?_push_of_some _ e)
  have hget : ((hp.push (PySem.W.kdv_tup [])).push (PySem.HandSPX.excO C hp.objs.size)).get? (hp.objs.size + 1) = some (PySem.HandSPX.excO C hp.objs.size) := by heap_get
  have I2 : Inv X pins σ (upd H (hp.objs.size + 1) (exo (hp.objs.size + 1) C none)) ⟨(hp.push (PySem.W.kdv_tup [])).push (PySem.HandSPX.excO C hp.objs.size), g, dr, tk, os⟩ :=
    I.laid (t' := tk) (a := hp.objs.size + 1) (o := exo (hp.objs.size + 1) C none) (h' := (hp.push (PySem.W.kdv_tup [])).push (PySem.HandSPX.excO C hp.objs.size)) kk hsz (exo_ok hget)
  have r2 : Vals [V.ref (hp.objs.size + 1)] [Value.ref (hp.objs.size + 1)] := .cons rfl .nil
  have hl : ([Value.ref (hp.objs.size + 1)] ++ []).length = ps.length := (F1.len _ _ _ _ hq)
  have b := hb _ [Value.ref (hp.objs.size + 1)] I2.kIn hl
  refine wpAny_call (PySem.HandSPX.call_own F.excBase_Exception hT hC (PySem.W.looks_findIn I.kIn T.iC) (fun self => PySem.W.bind_fn I.kIn self T.tI) (Nat.zero_le _)
    (codeAny_mono (F1.run _ X.stack _ _ ⟨[Value.ref (hp.objs.size + 1)], []⟩ [Value.ref (hp.objs.size + 1)] _ _ (fun _ _ _ => False) (hr.make C [] []) (I2.env0.make C [] []) b r2 hq) fun r s' hq' => ?_))
  cases r with
  | error er => exact hx pins σ _ _ er s' I2 hq'
  | ok fl =>
    cases fl with
    | ret u =>
      obtain ⟨v, H2, os2, bare2, un2, hok2, rv, ev, d, fs, ea, ed, hd1, q2⟩ := hq'
      subst ev
      obtain ⟨h2, g2, d2, t2, os'⟩ := s'
      exact ⟨rv, mk_end (raises_own T.exC T.tyC) I hsz kk un2 hok2 os2 bare2 ea ed hd1 q2⟩
    | next => exact False.elim hq'
    | brk => exact False.elim hq'
    | cont => exact False.elim hq'
end
/-! ### the four __init__ -/
section
variable {P : Program} {w : World} {K : PySem.W.Frag} {mg : Str → Option Value} {base : Heap} {a : Ad}
/-- what is behind an __init__ of an error at x -/
def XInit (H : Hp) (x C : Addr) (i : Int) (Q : VK) : Prop := H x = some (exo x C none) ∧ ∀ dx, H dx = none → dx ≠ x → Q .non (upd (upd H dx (exd dx [("number", .int i)])) x (exo x C (some dx)))
def spRef (K : PySem.W.Frag) : Sp := fun vs H Q _ => ∃ (x C : Addr) (i : Int), vs = [.ref x, .int i] ∧ XC K C ∧ XInit H x C i Q
theorem scRef : FnScope ["self", "number"] ["self", "number"] (defScope s_Refusal_init) := ⟨rfl, rfl, rfl, by decide +kernel, rfl, by decide +kernel, by decide +kernel⟩
theorem ok_ref (T : Txt K mg a) : FnOk P w K mg base CX0 1 a.f_Refusal_init a.d_Refusal_init ["self", "number"] (spRef K) := by
  refine T.Refusal_init.ok scRef (fun vs H Q E h => ?_) (fun cdv A outer s H vs Q E hr h => ⟨_, pss_one (ps_xset (pv 0) (pv 1)), ?_⟩)
  · obtain ⟨x, C, i, rfl, _⟩ := h
    rfl
  · obtain ⟨x, C, i, rfl, T', e, q⟩ := h
    exact ⟨_, rfl, _, rfl, x, C, rfl, T', T'.no, e, q⟩
def spSub (K : PySem.W.Frag) (i : Int) : Sp := fun vs H Q _ => ∃ (x C : Addr), vs = [.ref x] ∧ XC K C ∧ XInit H x C i Q
theorem scOut : FnScope ["self"] ["self"] (defScope s_OutOfRange_init) := ⟨rfl, rfl, rfl, by decide +kernel, rfl, by decide +kernel, by decide +kernel⟩
theorem ok_out (T : Txt K mg a) : FnOk P w K mg base CX0 2 a.f_OutOfRange_init a.d_OutOfRange_init ["self"] (spSub K (-1)) := by
  refine T.OutOfRange_init.ok scOut (fun vs H Q E h => ?_) (fun cdv A outer s H vs Q E hr h => ⟨_, pss_one (ps_expr (pe_clsdef rfl T.x_Refusal.g T.rdR T.gaR T.fcR T.Refusal_init.kp (ok_ref T) hr T.Refusal_init_b .nil pass0 (pa_cons (pv 0) (pa_cons (pe_un un_neg pe_int) pa_nil)))), ?_⟩)
  · obtain ⟨x, C, rfl, _⟩ := h
    rfl
  · obtain ⟨x, C, rfl, T', e, q⟩ := h
    exact ⟨_, rfl, 1, rfl, x, C, -1, rfl, T', e, q⟩
theorem scNoC : FnScope ["self"] ["self"] (defScope s_NoCase_init) := ⟨rfl, rfl, rfl, by decide +kernel, rfl, by decide +kernel, by decide +kernel⟩
theorem ok_noc (T : Txt K mg a) : FnOk P w K mg base CX0 2 a.f_NoCase_init a.d_NoCase_init ["self"] (spSub K (-5)) := by
  refine T.NoCase_init.ok scNoC (fun vs H Q E h => ?_) (fun cdv A outer s H vs Q E hr h => ⟨_, pss_one (ps_expr (pe_clsdef rfl T.x_Refusal.g T.rdR T.gaR T.fcR T.Refusal_init.kp (ok_ref T) hr T.Refusal_init_b .nil pass0 (pa_cons (pv 0) (pa_cons (pe_un un_neg pe_int) pa_nil)))), ?_⟩)
  · obtain ⟨x, C, rfl, _⟩ := h
    rfl
  · obtain ⟨x, C, rfl, T', e, q⟩ := h
    exact ⟨_, rfl, 5, rfl, x, C, -5, rfl, T', e, q⟩
theorem scToo : FnScope ["self"] ["self"] (defScope s_TooManyMatter_init) := ⟨rfl, rfl, rfl, by decide +kernel, rfl, by decide +kernel, by decide +kernel⟩
theorem ok_too (T : Txt K mg a) : FnOk P w K mg base CX0 2 a.f_TooManyMatter_init a.d_TooManyMatter_init ["self"] (spSub K (-6)) := by
  refine T.TooManyMatter_init.ok scToo (fun vs H Q E h => ?_) (fun cdv A outer s H vs Q E hr h => ⟨_, pss_one (ps_expr (pe_clsdef rfl T.x_Refusal.g T.rdR T.gaR T.fcR T.Refusal_init.kp (ok_ref T) hr T.Refusal_init_b .nil pass0 (pa_cons (pv 0) (pa_cons (pe_un un_neg pe_int) pa_nil)))), ?_⟩)
  · obtain ⟨x, C, rfl, _⟩ := h
    rfl
  · obtain ⟨x, C, rfl, T', e, q⟩ := h
    exact ⟨_, rfl, 6, rfl, x, C, -6, rfl, T', e, q⟩
/-- what is wanted of a refusal with the number i -/
def Refuses (K : PySem.W.Frag) (R : Addr) (H : Hp) (E : XK) (i : Int) : Prop := ∀ (C d : Addr), XC K C → PySem.W.exmOne K (.ref C) (.ref R) = some true → H d = none → E (.ref C) (some d) (upd H d (.xd [("number", .int i)]))
/-- the reading of raise C() -/
theorem raise_mk {C : Addr} {i : Int} {H : Hp} {σ : L2.St} {E : XK} (T : XC K C) (h : ∀ d, H d = none → E (.ref C) (some d) (upd H d (.xd [("number", .int i)]))) : tXMk C (spSub K i) σ H E := by
  intro x hx
  refine ⟨x, C, rfl, T, upd_same, fun dx hdx ne => ⟨rfl, dx, [("number", .int i)], upd_same, ?_, ?_, ?_⟩⟩
  · rw [upd_ne ne, upd_same]
  · rw [upd_ne ne] at hdx
    exact hdx
  · rw [upd_ne ne] at hdx
    have e : upd (del (upd (upd (upd H x (exo x C none)) dx (exd dx [("number", .int i)])) x (exo x C (some dx))) x) dx (.xd [("number", .int i)]) = upd H dx (.xd [("number", .int i)]) := by
      funext b
      by_cases hb : b = dx
      · rw [hb, upd_same, upd_same]
      · rw [upd_ne hb, upd_ne hb]
        by_cases hx2 : b = x
        · rw [hx2, del_same, hx]
        · rw [del_ne hx2, upd_ne hx2, upd_ne hb, upd_ne hx2]
    rw [e]
    exact h dx hdx
end
end Ten
namespace Ten
open PySem PySem.Spec PyProof.Rows L2
/-! The checks; the making of Cases and State; keep. -/
section
variable {P : Program} {w : World} {K : PySem.W.Frag} {mg : Str → Option Value} {base : Heap} {a : Ad}
/-- what is wanted of a refusal with the number i: all that stood stands -/
def Ref (K : PySem.W.Frag) (R : Addr) (H : Hp) (E : XK) (i : Int) : Prop :=
  ∀ (C d : Addr) (H' : Hp), XC K C → PySem.W.exmOne K (.ref C) (.ref R) = some true → Same H H' → H' d = some (.xd [("number", .int i)]) → E (.ref C) (some d) H'
theorem Ref.same {R : Addr} {H H' : Hp} {E : XK} {i : Int} (h : Ref K R H E i) (s : Same H H') : Ref K R H' E i := fun C d H2 T e s2 ed => h C d H2 T e (s.trans s2) ed
theorem Ref.at {R : Addr} {H : Hp} {E : XK} {i : Int} {C fI : Addr} {x : Str} {σ : L2.St} (T : TExc K mg x C fI R) (h : Ref K R H E i) : tXMk C (spSub K i) σ H E :=
  raise_mk T.xc fun d hd => h C d _ T.xc T.te (Same.upd hd) upd_same
def spBelow (K : PySem.W.Frag) (R : Addr) : Sp := fun vs H Q E => ∃ (n m : Nat), vs = [nV n, nV m] ∧ (n < m → Q .non H) ∧ (m ≤ n → Ref K R H E (-1))
theorem scBelow : FnScope ["number", "limit"] ["number", "limit"] (defScope s_check_below) := ⟨rfl, rfl, rfl, by decide +kernel, rfl, by decide +kernel, by decide +kernel⟩
theorem ok_below (T : Txt K mg a) : FnOk P w K mg base (L2.CX P w) 4 a.f_check_below a.d_check_below ["number", "limit"] (spBelow K a.c_Refusal) := by
  refine T.check_below.F.okX scBelow (fun vs H Q E h => ?_) (fun cdv A outer s H vs Q E hr h => ⟨_, pss_one (ps_if (pt_cmpR opn_ge (pv 0) (pv 1) (nomark _))
    (pss_one (ps_raise rfl (takes_of rfl rfl rfl rfl) (pmk_x T.x_OutOfRange (ok_out T) hr T.OutOfRange_init_b pass0 rfl))) pss_nil), ?_⟩)
  · obtain ⟨n, m, rfl, _⟩ := h
    rfl
  · obtain ⟨n, m, rfl, h1, h2⟩ := h
    refine ⟨_, rfl, _, rfl, n, m, rfl, rfl, _, rfl, ?_⟩
    by_cases c : m ≤ n
    · rw [decide_eq_true c]
      exact iteT ((h2 c).at T.x_OutOfRange)
    · rw [decide_eq_false c]
      exact iteF (h1 (by omega))
def inRegs (l : List Nat) : Prop := ∀ n ∈ l, n < 16
def spRegs (K : PySem.W.Frag) (R : Addr) : Sp := fun vs H Q E => ∃ (l : Addr) (ns : List Nat), vs = [.ref l] ∧ SqL K H l (nVs ns) ∧ (inRegs ns → Q .non H) ∧ (¬ inRegs ns → Ref K R H E (-1))
theorem scRegs : FnScope ["numbers", "number"] ["numbers"] (defScope s_check_registers) := ⟨rfl, rfl, rfl, by decide +kernel, rfl, by decide +kernel, by decide +kernel⟩
theorem ok_regs (T : Txt K mg a) : FnOk P w K mg base (L2.CX P w) 5 a.f_check_registers a.d_check_registers ["numbers"] (spRegs K a.c_Refusal) := by
  refine T.check_registers.F.okX scRegs (fun vs H Q E h => ?_) (fun cdv A outer s H vs Q E hr h => ⟨_, pss_one (ps_for (passes_of rfl) rfl (pi_list (pv 0)) (pg_name (i := 1) scRegs.nd rfl (.inl rfl))
    (pss_one (ps_expr (pe_call (ok_below T) hr rfl T.check_below.g T.check_below.F.kp T.check_below.b .nil (passes_call (takes_of rfl rfl rfl rfl) (fun _ _ _ _ h => h)) (pa_cons (pv 1) (pa_cons (pe_gi rfl T.i_REGISTERS) pa_nil)))))), ?_⟩)
  · obtain ⟨l, ns, rfl, _⟩ := h
    rfl
  · obtain ⟨l, ns, rfl, hS, h1, h2⟩ := h
    refine ⟨_, rfl, l, rfl, ⟨_, hS⟩, for_list (K := K) (a := l) (xs := nVs ns) (fun i σ H' => H' = H ∧ (∀ n ∈ ns.take i, n < 16) ∧ ∃ v : Option V, σ = [some (.ref l), v]) ⟨rfl, by simp, none, rfl⟩ (fun i σ H' _ ⟨e, _⟩ => e ▸ hS) ?_ ?_⟩
    · rintro i x σ H' hi ⟨rfl, hl, v, rfl⟩
      obtain ⟨n, hn, rfl⟩ := nVs_at hi
      refine ⟨_, rfl, n, 16, rfl, fun hlt => ⟨rfl, fun m hm => ?_, some (nV n), rfl⟩, fun hle => ?_⟩
      · rw [List.take_add_one, hn] at hm
        rcases List.mem_append.mp hm with hm | hm
        · exact hl m hm
        · have e : m = n := by simpa using hm
          rw [e]
          exact hlt
      · exact h2 fun z => absurd (z n (List.mem_of_getElem? hn)) (by omega)
    · rintro σ H' ⟨rfl, hl, v, rfl⟩
      rw [nVs_len, List.take_length] at hl
      exact h1 hl
def spVar (K : PySem.W.Frag) (R : Addr) (b : Nat) : Sp := fun vs H Q E => ∃ (n : Nat), vs = [nV n] ∧ (n < b → Q .non H) ∧ (b ≤ n → Ref K R H E (-1))
theorem scVar : FnScope ["number"] ["number"] (defScope s_check_variable) := ⟨rfl, rfl, rfl, by decide +kernel, rfl, by decide +kernel, by decide +kernel⟩
theorem ok_var (T : Txt K mg a) : FnOk P w K mg base (L2.CX P w) 5 a.f_check_variable a.d_check_variable ["number"] (spVar K a.c_Refusal 10) := by
  refine T.check_variable.F.okX scVar (fun vs H Q E h => ?_) (fun cdv A outer s H vs Q E hr h => ⟨_, pss_one (ps_expr (pe_call (ok_below T) hr rfl T.check_below.g T.check_below.F.kp T.check_below.b .nil (passes_call (takes_of rfl rfl rfl rfl) (fun _ _ _ _ h => h)) (pa_cons (pv 0) (pa_cons (pe_gi rfl T.i_VARIABLES) pa_nil)))), ?_⟩)
  · obtain ⟨n, rfl, _⟩ := h
    rfl
  · obtain ⟨n, rfl, h1, h2⟩ := h
    exact ⟨_, rfl, n, 10, rfl, h1, h2⟩
theorem scYes : FnScope ["number"] ["number"] (defScope s_check_yes_or_no) := ⟨rfl, rfl, rfl, by decide +kernel, rfl, by decide +kernel, by decide +kernel⟩
theorem ok_yes (T : Txt K mg a) : FnOk P w K mg base (L2.CX P w) 5 a.f_check_yes_or_no a.d_check_yes_or_no ["number"] (spVar K a.c_Refusal 2) := by
  refine T.check_yes_or_no.F.okX scYes (fun vs H Q E h => ?_) (fun cdv A outer s H vs Q E hr h => ⟨_, pss_one (ps_expr (pe_call (ok_below T) hr rfl T.check_below.g T.check_below.F.kp T.check_below.b .nil (passes_call (takes_of rfl rfl rfl rfl) (fun _ _ _ _ h => h)) (pa_cons (pv 0) (pa_cons pe_int pa_nil)))), ?_⟩)
  · obtain ⟨n, rfl, _⟩ := h
    rfl
  · obtain ⟨n, rfl, h1, h2⟩ := h
    exact ⟨_, rfl, n, 2, rfl, h1, h2⟩

/-! ### Cases.__init__ -/
/-- behind an __init__ of the instance at p: the new instance holds C', all else stands -/
def spCsI (a : Ad) : Sp := fun vs H Q _ => ∃ (p dx : Addr), vs = [.ref p] ∧ H p = some (.ins a.c_Cases dx []) ∧ ∀ H' : Hp, CasesAt a H' p → (∀ b o, H b = some o → b ≠ p → H' b = some o) → Q .non H'
theorem scCsI : FnScope ["self", "variable", "function"] ["self"] (defScope s_Cases_init) := ⟨rfl, rfl, rfl, by decide +kernel, rfl, by decide +kernel, by decide +kernel⟩
theorem map_range_next {α : Type} (f : Nat → α) (i : Nat) : (List.range (i + 1)).map f = (List.range i).map f ++ [f i] := by
  rw [List.range_succ, List.map_append]
  rfl
theorem EV_shl : (1 <<< 1024) - 1 = EV := by
  rw [Nat.one_shiftLeft]
  rfl
abbrev csF1 : List (Str × V) := [("everywhere", nV EV)]
abbrev csF2 (y : Addr) : List (Str × V) := [("everywhere", nV EV), ("yes", .ref y)]
abbrev stF1 (x : Addr) : List (Str × V) := [("cases", .ref x)]
def rXor : R2 := fun x y H Q => ∃ n m : Nat, x = .int (n : Int) ∧ y = .int (m : Int) ∧ Q (.int ((n ^^^ m : Nat) : Int)) H
theorem ok_csI (T : Txt K mg a) : FnOk P w K mg base CX0 2 a.f_Cases_init a.d_Cases_init ["self"] (spCsI a) := by
  refine T.Cases_init.ok scCsI (fun vs H Q E h => ?_) (fun cdv A outer s H vs Q E hr h => ⟨_, pss_cons (ps_fld (pv 0) (pe_op op_subN (pe_op opn_shl pe_int (pe_gi rfl T.i_CASES)) pe_int) rfl)
    (pss_cons (ps_fld (pv 0) (pe_lc (own := [("variable", 1)]) (g := gName 1) (tt := tYes) rfl scCsI.nd (pi_range1 rfl T.b_range (pa_cons (pe_gi rfl T.i_VARIABLES) pa_nil))
      (blkOk_by (N := ["self", "variable", "function"]) (sc := defScope s_Cases_init) (by decide +kernel)) (fun _ _ _ _ _ => pg_name (i := 1) scCsI.nd rfl (Or.inl rfl)) (fun _ _ _ _ _ => pts_nil)
      (fun _ _ _ _ _ => pe_call (ok_vf T) hr rfl T.variable_function.g T.variable_function.F.kp T.variable_function.b .nil pass0 (pa_cons (pv 1) pa_nil))) rfl)
    (pss_one (ps_fld (pv 0) (pe_lc (own := [("function", 2)]) (g := gName 2) (tt := tYes) (te := tOp rXor (tFld K (tVar 0) "everywhere") (tVar 2)) rfl scCsI.nd (pi_list (pe_fld (pv 0) rfl))
      (blkOk_by (N := ["self", "variable", "function"]) (sc := defScope s_Cases_init) (by decide +kernel)) (fun _ _ _ _ _ => pg_name (i := 2) scCsI.nd rfl (Or.inl rfl)) (fun _ _ _ _ _ => pts_nil)
      (fun _ _ _ _ _ => pe_op opn_xor (pe_fld (pv 0) rfl) (pv 2))) rfl))), ?_⟩)
  · obtain ⟨p, dx, rfl, _⟩ := h
    rfl
  · obtain ⟨p, dx, rfl, hp, k⟩ := h
    refine ⟨1, 1024, 1, rfl, rfl, by decide, by omega, _, 1, rfl, rfl, ?_, _, rfl, p, _, dx, _, rfl, hp, T.cl_Cases, T.no_Cases_everywhere, (by show 0 < 1000; decide), ?_⟩
    · rw [Nat.one_shiftLeft]
      exact Nat.two_pow_pos 1024
    rw [EV_shl]
    -- self.yes
    refine ⟨10, rfl, by decide, by decide, fun D hD => ?_⟩
    have nDp : D ≠ p := fun z => by
      rw [z, upd_same] at hD
      cases hD
    have hD0 : H D = none := by
      rw [upd_ne nDp] at hD
      exact hD
    refine lc_range (lo := 0) (n := 10) (fun i H' => (∀ b o, H b = some o → b ≠ p → H' b = some o) ∧ H' p = some (.ins a.c_Cases dx csF1) ∧ H' D = some (.lst (nVs ((List.range i).map vfun)))) ⟨fun b o e nb => ?_, ?_, upd_same⟩ ?_ ?_
    · rw [upd_ne (ne_of_none e hD0), upd_ne nb]
      exact e
    · rw [upd_ne (Ne.symm nDp), upd_same]
      rfl
    · rintro i H' hi ⟨h1, h2, h3⟩
      have ei : (0 : Int) + (i : Int) = (i : Int) := Int.zero_add _
      rw [ei]
      refine ⟨rfl, _, rfl, i, rfl, hi, _, h3, ?_, fun b o e nb => ?_, ?_, ?_⟩
      · rw [nVs_len, List.length_map, List.length_range]
        exact Nat.lt_trans hi (by decide)
      · rw [upd_ne (ne_of_none e hD0)]
        exact h1 b o e nb
      · rw [upd_ne (Ne.symm nDp)]
        exact h2
      · rw [upd_same, map_range_next, ← nVs_app]
        rfl
    · rintro H' ⟨h1, h2, h3⟩
      refine ⟨_, rfl, p, _, dx, _, rfl, h2, T.cl_Cases, T.no_Cases_yes, (by show 1 < 1000; decide), ?_⟩
      -- self.no
      have e2 : putF "yes" (.ref D) csF1 = csF2 D := put_past (by decide +kernel)
      rw [e2]
      refine ⟨_, rfl, p, _, dx, _, _, rfl, upd_same, T.cl_Cases, T.no_Cases_yes, (lk_past (by decide +kernel)).trans lk_here, D, rfl, ⟨_, SqL.of (by rw [upd_ne nDp]; exact h3)⟩, fun N hN => ?_⟩
      have nNp : N ≠ p := fun z => by
        rw [z, upd_same] at hN
        cases hN
      rw [upd_ne nNp] at hN
      have nND : N ≠ D := fun z => by
        rw [z, h3] at hN
        cases hN
      have hN0 : ∀ b o, H b = some o → b ≠ p → b ≠ N := fun b o e nb z => by
        have q := h1 b o e nb
        rw [z, hN] at q
        cases q
      refine lc_list (K := K) (a := D) (xs := nVs yesL) (fun i H2 => (∀ b o, H b = some o → b ≠ p → H2 b = some o) ∧ H2 p = some (.ins a.c_Cases dx (csF2 D)) ∧ H2 D = some (.lst (nVs yesL)) ∧ H2 N = some (.lst (nVs ((List.range i).map nfun)))) ⟨fun b o e nb => ?_, ?_, ?_, upd_same⟩ (fun i H2 _ ⟨_, _, q, _⟩ => SqL.of q) ?_ ?_
      · rw [upd_ne (hN0 b o e nb), upd_ne nb]
        exact h1 b o e nb
      · rw [upd_ne (Ne.symm nNp), upd_same]
      · rw [upd_ne (Ne.symm nND), upd_ne nDp]
        exact h3
      · rintro i x H2 hx ⟨q1, q2, q3, q4⟩
        obtain ⟨n, hn, rfl⟩ := nVs_at hx
        have hi : i < 10 := by
          have q := (List.getElem?_eq_some_iff.mp hn).1
          unfold yesL at q
          simpa using q
        have en : n = vfun i := by
          unfold yesL at hn
          rw [List.getElem?_map, List.getElem?_range hi] at hn
          exact (Option.some.inj hn).symm
        subst en
        refine ⟨rfl, _, rfl, p, _, dx, _, _, rfl, q2, T.cl_Cases, T.no_Cases_everywhere, lk_here, _, rfl, EV, vfun i, rfl, rfl, _, q4, ?_, fun b o e nb => ?_, ?_, ?_, ?_⟩
        · rw [nVs_len, List.length_map, List.length_range]
          exact Nat.lt_trans hi (by decide)
        · rw [upd_ne (hN0 b o e nb)]
          exact q1 b o e nb
        · rw [upd_ne (Ne.symm nNp)]
          exact q2
        · rw [upd_ne (Ne.symm nND)]
          exact q3
        · rw [upd_same, map_range_next, ← nVs_app]
          rfl
      · rintro H2 ⟨q1, q2, q3, q4⟩
        refine ⟨_, rfl, p, _, dx, _, rfl, q2, T.cl_Cases, T.no_Cases_no, (by show 2 < 1000; decide), ?_⟩
        have e3 : putF "no" (.ref N) (csF2 D) = csF D N := (put_past (by decide +kernel)).trans (congrArg _ (put_past (by decide +kernel)))
        have ey : (nVs yesL).length = 10 := by
          rw [nVs_len]
          unfold yesL
          simp
        rw [ey] at q4
        refine k _ ⟨dx, D, N, ?_, ?_, ?_⟩ fun b o e nb => ?_
        · rw [upd_same, e3]
        · rw [upd_ne nDp]
          exact q3
        · rw [upd_ne nNp]
          exact q4
        · rw [upd_ne nb]
          exact q1 b o e nb

/-! ### State -/
/-- at st: the state, its registers fs -/
def StateAt (a : Ad) (H : Hp) (st : Addr) (fs : List Nat) : Prop := fs.length = 16 ∧ ∃ dx cs fl, H st = some (.ins a.c_State dx (stF cs fl)) ∧ CasesAt a H cs ∧ H fl = some (.lst (nVs fs))
theorem StateAt.same {a : Ad} {H H' : Hp} {st : Addr} {fs : List Nat} (h : StateAt a H st fs) (s : Same H H') : StateAt a H' st fs := by
  obtain ⟨z, dx, cs, fl, e1, e2, e3⟩ := h
  exact ⟨z, dx, cs, fl, s _ _ e1, e2.same s, s _ _ e3⟩
theorem stF_cs (cs fl : Addr) : (stF cs fl).lookup ("cases" : Str) = some (.ref cs) := lk_here
theorem stF_fl (cs fl : Addr) : (stF cs fl).lookup ("functions" : Str) = some (.ref fl) := (lk_past (by decide +kernel)).trans lk_here
theorem stF_m (cs fl : Addr) {m : Str} (h : notField m ["cases", "functions"] = true) : (stF cs fl).lookup m = none := no_field h
def spStI (a : Ad) : Sp := fun vs H Q _ => ∃ (p dx : Addr), vs = [.ref p] ∧ H p = some (.ins a.c_State dx []) ∧ ∀ H' : Hp, StateAt a H' p (List.replicate 16 0) → (∀ b o, H b = some o → b ≠ p → H' b = some o) → Q .non H'
theorem scStI : FnScope ["self"] ["self"] (defScope s_State_init) := ⟨rfl, rfl, rfl, by decide +kernel, rfl, by decide +kernel, by decide +kernel⟩
theorem ok_stI (T : Txt K mg a) : FnOk P w K mg base CX0 4 a.f_State_init a.d_State_init ["self"] (spStI a) := by
  refine T.State_init.ok scStI (fun vs H Q E h => ?_) (fun cdv A outer s H vs Q E hr h => ⟨_, pss_cons (ps_fld (pv 0) (pe_make0 T.mk_Cases (ok_csI T) hr rfl T.g_Cases T.Cases_init_b .nil pass0) rfl)
    (pss_one (ps_fld (pv 0) (pe_op op_rep (pe_lst (pa_cons (pe_gi rfl T.i_NO_EVERYWHERE) pa_nil)) (pe_gi rfl T.i_REGISTERS)) rfl)), ?_⟩)
  · obtain ⟨p, dx, rfl, _⟩ := h
    rfl
  · obtain ⟨p, dx, rfl, hp, k⟩ := h
    intro x dc nx nd ne
    have nxp : x ≠ p := fun z => by
      rw [z, hp] at nx
      cases nx
    refine ⟨x, dc, rfl, upd_same, fun H1 C1 kp => ⟨rfl, ?_⟩⟩
    have old : ∀ b o, H b = some o → H1 b = some o := fun b o e => kp b o (by rw [upd_ne (ne_of_none e nx), upd_ne (ne_of_none e nd)]; exact e) (ne_of_none e nx)
    refine ⟨_, rfl, p, _, dx, _, rfl, old _ _ hp, T.cl_State, T.no_State_cases, (by show 0 < 1000; decide), ?_⟩
    refine ⟨(by show 1 ≤ sizeLine; decide), fun l hl => ?_⟩
    have nlp : l ≠ p := fun z => by
      rw [z, upd_same] at hl
      cases hl
    rw [upd_ne nlp] at hl
    refine ⟨l, 16, _, rfl, rfl, upd_same, by decide, by decide, (by show 1 * 16 ≤ sizeLine; decide), fun r hr2 => ?_⟩
    have nrl : r ≠ l := fun z => by
      rw [z, upd_same] at hr2
      cases hr2
    rw [upd_ne nrl] at hr2
    have nrp : r ≠ p := fun z => by
      rw [z, upd_same] at hr2
      cases hr2
    rw [upd_ne nrp] at hr2
    refine ⟨_, rfl, p, _, dx, stF1 x, rfl, ?_, T.cl_State, T.no_State_functions, (by show 1 < 1000; decide), ?_⟩
    · rw [upd_ne (Ne.symm nrp), upd_ne (Ne.symm nlp), upd_same]
      rfl
    have e3 : putF "functions" (.ref r) (stF1 x) = stF x r := put_past (by decide +kernel)
    rw [e3]
    have at_ : ∀ b o, H1 b = some o → b ≠ p → upd (upd (upd (upd H1 p (.ins a.c_State dx (putF "cases" (.ref x) []))) l (.lst [.int 0])) r (.lst (List.replicate (16 : Int).toNat [V.int 0]).flatten)) p (.ins a.c_State dx (stF x r)) b = some o := fun b o e nb => by
      rw [upd_ne nb, upd_ne (ne_of_none e hr2), upd_ne (ne_of_none e hl), upd_ne nb]
      exact e
    refine k _ ⟨by simp, dx, x, r, upd_same, ?_, ?_⟩ fun b o e nb => at_ b o (old b o e) nb
    · obtain ⟨d2, y, n, c1, c2, c3⟩ := C1
      have np : ∀ b o, H1 b = some o → o ≠ (.ins a.c_State dx []) → b ≠ p := fun b o e ho z => by
        have q := old _ _ hp
        rw [← z, e] at q
        exact ho (Option.some.inj q)
      refine ⟨d2, y, n, at_ _ _ c1 (np _ _ c1 fun z => ?_), at_ _ _ c2 (np _ _ c2 (by simp)), at_ _ _ c3 (np _ _ c3 (by simp))⟩
      have z' : csF y n = [] := by injection z
      cases z'
    · rw [upd_ne nrp, upd_same]
      rfl
/-- keep: the new function stands in its register -/
def spKeep (a : Ad) : Sp := fun vs H Q _ => ∃ (st : Addr) (fs : List Nat) (r f : Nat), vs = [.ref st, nV r, nV f] ∧ StateAt a H st fs ∧ r < 16 ∧
  ∀ (H' : Hp) (p : Addr), StateAt a H' st (fs.set r f) → (∀ dx cs fl, H st = some (.ins a.c_State dx (stF cs fl)) → ∀ b o, H b = some o → b ≠ fl → H' b = some o) → H p = none → H' p = some (.lst [nV (hmN f)]) → Q (.ref p) H'
theorem scKeep : FnScope ["self", "place", "function"] ["self", "place", "function"] (defScope s_State_keep) := ⟨rfl, rfl, rfl, by decide +kernel, rfl, by decide +kernel, by decide +kernel⟩
theorem ixN_nat {n j : Nat} (h : j < n) : ixN n (j : Int) = some j := by
  unfold ixN
  rw [if_pos (Int.natCast_nonneg j), if_pos (by omega), Int.toNat_natCast]
theorem ok_keep (T : Txt K mg a) : FnOk P w K mg base CX0 2 a.f_State_keep a.d_State_keep ["self", "place", "function"] (spKeep a) := by
  refine T.State_keep.F.ok scKeep (fun vs H Q E h => ?_) (fun cdv A outer s H vs Q E hr h => ⟨_, pss_cons (ps_asg (pv 2) (pg_sub (pe_fld (pv 0) rfl) (pv 1) set_list))
    (pss_one (ps_ret (pe_lst (pa_cons (pe_meth (pe_fld (pv 0) rfl) T.cl_Cases T.Cases_how_many.M (ok_hm T) hr T.Cases_how_many.b .nil pass0 (pa_cons (pv 2) pa_nil)) pa_nil)))), ?_⟩)
  · obtain ⟨st, fs, r, f, rfl, _⟩ := h
    rfl
  · obtain ⟨st, fs, r, f, rfl, S, hr2, k⟩ := h
    obtain ⟨hz, dx, cs, fl, e1, e2, e3⟩ := id S
    refine ⟨_, rfl, _, rfl, st, _, dx, _, _, rfl, e1, T.cl_State, T.no_State_functions, stF_fl cs fl, _, rfl, fl, _, r, r, rfl, rfl, e3, ixN_nat (by rw [nVs_len, hz]; exact hr2), ?_⟩
    rw [nVs_set]
    have old : ∀ b o, H b = some o → b ≠ fl → upd H fl (.lst (nVs (fs.set r f))) b = some o := fun b o e nb => by
      rw [upd_ne nb]
      exact e
    have nl : ∀ {b : Addr} {l : List Nat}, H b = some (.lst (nVs l)) → l.length = 10 → b ≠ fl := fun {b l} e el => ne_of e e3 fun z => by
      injection z with z
      have q := congrArg List.length z
      rw [nVs_len, nVs_len, hz, el] at q
      cases q
    have C1 : CasesAt a (upd H fl (.lst (nVs (fs.set r f)))) cs := by
      obtain ⟨d2, y, n, c1, c2, c3⟩ := id e2
      exact ⟨d2, y, n, old _ _ c1 (ne_of c1 e3 (by simp)), old _ _ c2 (nl c2 (by simp [yesL])), old _ _ c3 (nl c3 (by simp [noL]))⟩
    have e1' := old _ _ e1 (ne_of e1 e3 (by simp))
    obtain ⟨d2, y, n, c1, c2, c3⟩ := id C1
    refine ⟨_, rfl, st, _, dx, _, _, rfl, e1', T.cl_State, T.no_State_cases, stF_cs cs fl, cs, d2, _, rfl, c1, csF_m y n (by decide +kernel), _, rfl, cs, f, rfl, C1, (by show 1 ≤ sizeLine; decide), fun p hp => ?_⟩
    have npf : p ≠ fl := fun z => by
      rw [z, upd_same] at hp
      cases hp
    have S2 : Same (upd H fl (.lst (nVs (fs.set r f)))) (upd (upd H fl (.lst (nVs (fs.set r f)))) p (.lst [nV (hmN f)])) := Same.upd hp
    refine k _ p ⟨by rw [List.length_set]; exact hz, dx, cs, fl, S2 _ _ e1', C1.same S2, S2 _ _ upd_same⟩ (fun dx' cs' fl' e' b o e nb => S2 _ _ (old _ _ e ?_)) ?_ upd_same
    · rw [e1] at e'
      have q : stF cs fl = stF cs' fl' := by
        injection e' with e'
        injection e'
      have q2 : (stF cs fl).lookup ("functions" : Str) = (stF cs' fl').lookup ("functions" : Str) := by rw [q]
      rw [stF_fl, stF_fl] at q2
      have q3 : fl = fl' := by
        injection q2 with q2
        injection q2
      rw [q3]
      exact nb
    · rw [upd_ne npf] at hp
      exact hp
end
end Ten
namespace Ten
open PySem PySem.Spec PyProof.Rows L2
/-! The calls that put a function into a register, and the small ones that only answer (printed by gen_w3.py). -/
/-- an answer's numbers as they stand in a list -/
def shV (x : Diag.Answer) : List V := (DiagNeutral.shown x).map V.int
/-- all stands but the registers' list -/
def Kept (a : Ad) (H H' : Hp) (st : Addr) : Prop := ∀ dx cs fl, H st = some (.ins a.c_State dx (stF cs fl)) → ∀ b o, H b = some o → b ≠ fl → H' b = some o
theorem Same.kept {a : Ad} {H H' : Hp} {st : Addr} (s : Same H H') : Kept a H H' st := fun _ _ _ _ b o e _ => s b o e
theorem Kept.ahead {a : Ad} {H H1 H' : Hp} {st : Addr} (s : Same H H1) (k : Kept a H1 H' st) : Kept a H H' st := fun dx cs fl e b o eb nb => k dx cs fl (s _ _ e) b o (s _ _ eb) nb
/-- how a call may end: by its answer in a new list, or, where the answer is a refusal, by an error -/
def CallEnds (a : Ad) (K : PySem.W.Frag) (H : Hp) (st : Addr) (fs : List Nat) (r : List Nat × Diag.Answer) (Q : VK) (E : XK) : Prop :=
  (∀ (H' : Hp) (p : Addr), StateAt a H' st r.1 → Kept a H H' st → H p = none → H' p = some (.lst (shV r.2)) → Q (.ref p) H') ∧ (∀ i, r = (fs, Diag.says i) → Ref K a.c_Refusal H E i)
def spCall (a : Ad) (K : PySem.W.Frag) (n : Nat) (mk : List Nat → Diag.Call) : Sp := fun vs H Q E => ∃ (st g : Addr) (fs ns : List Nat), vs = [.ref st, .ref g] ∧ StateAt a H st fs ∧ Wf fs ∧ H g = some (.lst (nVs ns)) ∧ ns.length = n ∧ CallEnds a K H st fs (Diag.step fs (mk ns)) Q E
theorem reg_get {fs : List Nat} {r : Nat} (h : r < fs.length) : (nVs fs)[r]? = some (nV (Diag.reg fs r)) := nVs_get (by
  unfold Diag.reg
  rw [List.getD_eq_getElem?_getD, List.getElem?_eq_getElem h]
  rfl)
theorem regs1 {x : Nat} : inRegs [x] ↔ x < 16 := by simp [inRegs]
theorem regs2 {x y : Nat} : inRegs [x, y] ↔ x < 16 ∧ y < 16 := by simp [inRegs]
theorem regs3 {x y z : Nat} : inRegs [x, y, z] ↔ x < 16 ∧ y < 16 ∧ z < 16 := by simp [inRegs]
theorem regs4 {x y z u : Nat} : inRegs [x, y, z, u] ↔ x < 16 ∧ y < 16 ∧ z < 16 ∧ u < 16 := by simp [inRegs]
section
variable {P : Program} {w : World} {K : PySem.W.Frag} {mg : Str → Option Value} {base : Heap} {a : Ad}
theorem CallEnds.no {H : Hp} {st : Addr} {fs : List Nat} {r : List Nat × Diag.Answer} {Q : VK} {E : XK} {i : Int} (h : CallEnds a K H st fs r Q E) (e : r = (fs, Diag.says i)) {H' : Hp} (s : Same H H') : Ref K a.c_Refusal H' E i := (h.2 i e).same s
theorem CallEnds.told {H : Hp} {st : Addr} {fs : List Nat} {r : List Nat × Diag.Answer} {Q : VK} {E : XK} (h : CallEnds a K H st fs r Q E) (S : StateAt a H st fs) {x : Diag.Answer} (e : r = (fs, x)) {H' : Hp} {p : Addr} (s : Same H H') (hp : H p = none) (he : H' p = some (.lst (shV x))) : Q (.ref p) H' := by
  subst e
  exact h.1 H' p (S.same s) (Same.kept s) hp he
/-- keep's promise, from what the call is to end by -/
theorem keep_at {H H1 : Hp} {st : Addr} {fs : List Nat} {r : List Nat × Diag.Answer} {Q : VK} {E : XK} {j f : Nat} (h : CallEnds a K H st fs r Q E) (S : StateAt a H st fs) (s : Same H H1) (hj : j < 16) (hf : f < Full) (e : r = Diag.sets fs j f) : spKeep a [.ref st, nV j, nV f] H1 Q E0 := by
  refine ⟨st, fs, j, f, rfl, S.same s, hj, fun H' p S' k hp he => ?_⟩
  subst e
  refine h.1 H' p S' (Kept.ahead s k) (s.free hp) ?_
  rw [he, count_eq hf]
  rfl
abbrev passR {X : Cx} {E : XK} (tk : Takes X (fun cls d _ H => E cls d H)) : ∀ (pins : List (Addr × Obj)) (σ : L2.St) (H : Hp) (s : Shared) (e : Value) (s' : Shared), Inv X pins σ H s → L2.CX X.prog X.w X.stack H s E e s' → X.xe e s' := passes_call tk (fun _ _ _ _ h => h)
/-- state.functions[x] -/
theorem rd_reg (T : Txt K mg a) {H : Hp} {σ : L2.St} {st : Addr} {fs : List Nat} {x : Nat} {te : TE} {Q : VK} (h0 : σ[0]? = some (some (.ref st))) (S : StateAt a H st fs) (hx : x < 16) (he : te σ H fun y H1 => y = nV x ∧ H1 = H) (mono : ∀ (Q1 Q2 : VK), (∀ y H1, Q1 y H1 → Q2 y H1) → te σ H Q1 → te σ H Q2) (q : Q (nV (Diag.reg fs x)) H) :
    tOp (rIxL K) (tFld K (tVar 0) "functions") te σ H Q := by
  obtain ⟨hz, dx, cs, fl, e1, C, e3⟩ := S
  refine ⟨_, h0, st, _, dx, _, _, rfl, e1, T.cl_State, T.no_State_functions, stF_fl cs fl, mono _ _ (fun y H1 ⟨ey, eH⟩ => ?_) he⟩
  subst ey eH
  exact ⟨fl, _, x, _, rfl, rfl, SqL.of e3, at_nat (reg_get (by rw [hz]; exact hx)), q⟩
theorem rd_regV (T : Txt K mg a) {H : Hp} {σ : L2.St} {st : Addr} {fs : List Nat} {x i : Nat} {Q : VK} (h0 : σ[0]? = some (some (.ref st))) (hi : σ[i]? = some (some (nV x))) (S : StateAt a H st fs) (hx : x < 16) (q : Q (nV (Diag.reg fs x)) H) :
    tOp (rIxL K) (tFld K (tVar 0) "functions") (tVar i) σ H Q := rd_reg T h0 S hx ⟨_, hi, rfl, rfl⟩ (fun _ _ k ⟨y, e, z⟩ => ⟨y, e, k _ _ z⟩) q
/-- state.cases.m(..) -/
theorem rd_cs (T : Txt K mg a) {H : Hp} {σ : L2.St} {st : Addr} {fs : List Nat} {m : Str} {sp : Sp} {E : XK} {t : TA} {Q : VK} (h0 : σ[0]? = some (some (.ref st))) (S : StateAt a H st fs) (hm : notField m ["everywhere", "yes", "no"] = true)
    (q : ∀ cs, CasesAt a H cs → t σ H fun vs H2 => sp (.ref cs :: (vs ++ [])) H2 Q E) : tMeth a.c_Cases m sp [] E (tFld K (tVar 0) "cases") t σ H Q := by
  obtain ⟨hz, dx, cs, fl, e1, C, e3⟩ := S
  obtain ⟨d2, y, n, c1, c2, c3⟩ := id C
  exact ⟨_, h0, st, _, dx, _, _, rfl, e1, T.cl_State, T.no_State_cases, stF_cs cs fl, cs, d2, _, rfl, c1, csF_m y n hm, q cs C⟩
/-- state.keep(..) -/
theorem rd_keep {H : Hp} {σ : L2.St} {st : Addr} {fs : List Nat} {t : TA} {Q : VK} (h0 : σ[0]? = some (some (.ref st))) (S : StateAt a H st fs) (q : t σ H fun vs H2 => spKeep a (.ref st :: (vs ++ [])) H2 Q E0) : tMeth a.c_State "keep" (spKeep a) [] E0 (tVar 0) t σ H Q := by
  obtain ⟨hz, dx, cs, fl, e1, C, e3⟩ := S
  exact ⟨_, h0, st, dx, _, rfl, e1, stF_m cs fl (by decide +kernel), q⟩

/-! ### const -/
def mk_const : List Nat → Diag.Call := fun ns => .const (ns.getD 0 0) (ns.getD 1 0)
theorem scKconst : FnScope ["state", "given", "r", "z"] ["state", "given"] (defScope s_call_const) := ⟨rfl, rfl, rfl, by decide +kernel, rfl, by decide +kernel, by decide +kernel⟩
theorem ok_kconst (T : Txt K mg a) : FnOk P w K mg base (L2.CX P w) 8 a.f_call_const a.d_call_const ["state", "given"] (spCall a K 2 mk_const) := by
  refine T.call_const.F.okX scKconst (fun vs H Q E h => ?_) (fun cdv A outer s H vs Q E hr h => ⟨_, (pss_cons (ps_asg (pv 1) (pg_unl rfl (pgs_cons (pg_name (i := 2) scKconst.nd rfl (.inl rfl)) (pgs_cons (pg_name (i := 3) scKconst.nd rfl (.inl rfl)) pgs_nil))))
    (pss_cons (ps_expr (pe_call (ok_regs T) (hr.mono (by decide)) rfl T.check_registers.g T.check_registers.F.kp T.check_registers.b .nil (passR (takes_of rfl rfl rfl rfl)) (pa_cons (pe_lst (pa_cons (pv 2) pa_nil)) pa_nil)))
    (pss_cons (ps_expr (pe_call (ok_yes T) (hr.mono (by decide)) rfl T.check_yes_or_no.g T.check_yes_or_no.F.kp T.check_yes_or_no.b .nil (passR (takes_of rfl rfl rfl rfl)) (pa_cons (pv 3) pa_nil)))
    (pss_one (ps_ret (pe_meth (pv 0) T.cl_State T.State_keep.M (ok_keep T) (hr.mono (by decide)) T.State_keep.b .nil pass0 (pa_cons (pv 2) (pa_cons (pe_meth (pe_fld (pv 0) rfl) T.cl_Cases T.Cases_constant.M (ok_const T) (hr.mono (by decide)) T.Cases_constant.b .nil pass0 (pa_cons (pv 3) pa_nil)) pa_nil)))))))), ?_⟩)
  · obtain ⟨st, g, fs, ns, rfl, _⟩ := h
    rfl
  · obtain ⟨st, g, fs, ns, rfl, S, W, hg, hl, ends⟩ := h
    match ns, hl with
    | [r, z], _ =>
      replace ends : CallEnds a K H st fs (Diag.step fs (.const r z)) Q E := ends
      refine ⟨_, rfl, g, _, rfl, SqL.of hg, rfl, _, _, rfl, _, _, rfl, rfl, ?_⟩
      refine ⟨_, rfl, (by show 1 ≤ sizeLine; decide), fun l hl => ⟨l, [r], rfl, SqL.of upd_same, fun ok => ?_, fun bad => ?_⟩⟩
      · have S1 : Same H (upd H l (.lst [nV r])) := Same.upd hl
        rw [regs1] at ok
        have S' := S.same S1
        refine ⟨_, rfl, z, rfl, fun h1 => ?_, fun h1 => ends.no (no_const (by omega)) S1⟩
        refine rd_keep rfl S' ⟨_, rfl, rd_cs T rfl S' (by decide +kernel) fun cs C => ⟨_, rfl, cs, z, rfl, C, ?_⟩⟩
        exact keep_at ends S S1 ok (by split; exact EV_lt; exact Nat.two_pow_pos 1024) (st_const (by omega))
      · rw [regs1] at bad
        exact ends.no (no_const (by omega)) (Same.upd hl)
/-! ### var -/
def mk_var : List Nat → Diag.Call := fun ns => .var (ns.getD 0 0) (ns.getD 1 0)
theorem scKvar : FnScope ["state", "given", "r", "v"] ["state", "given"] (defScope s_call_var) := ⟨rfl, rfl, rfl, by decide +kernel, rfl, by decide +kernel, by decide +kernel⟩
theorem ok_kvar (T : Txt K mg a) : FnOk P w K mg base (L2.CX P w) 8 a.f_call_var a.d_call_var ["state", "given"] (spCall a K 2 mk_var) := by
  refine T.call_var.F.okX scKvar (fun vs H Q E h => ?_) (fun cdv A outer s H vs Q E hr h => ⟨_, (pss_cons (ps_asg (pv 1) (pg_unl rfl (pgs_cons (pg_name (i := 2) scKvar.nd rfl (.inl rfl)) (pgs_cons (pg_name (i := 3) scKvar.nd rfl (.inl rfl)) pgs_nil))))
    (pss_cons (ps_expr (pe_call (ok_regs T) (hr.mono (by decide)) rfl T.check_registers.g T.check_registers.F.kp T.check_registers.b .nil (passR (takes_of rfl rfl rfl rfl)) (pa_cons (pe_lst (pa_cons (pv 2) pa_nil)) pa_nil)))
    (pss_cons (ps_expr (pe_call (ok_var T) (hr.mono (by decide)) rfl T.check_variable.g T.check_variable.F.kp T.check_variable.b .nil (passR (takes_of rfl rfl rfl rfl)) (pa_cons (pv 3) pa_nil)))
    (pss_one (ps_ret (pe_meth (pv 0) T.cl_State T.State_keep.M (ok_keep T) (hr.mono (by decide)) T.State_keep.b .nil pass0 (pa_cons (pv 2) (pa_cons (pe_call (ok_vf T) (hr.mono (by decide)) rfl T.variable_function.g T.variable_function.F.kp T.variable_function.b .nil pass0 (pa_cons (pv 3) pa_nil)) pa_nil)))))))), ?_⟩)
  · obtain ⟨st, g, fs, ns, rfl, _⟩ := h
    rfl
  · obtain ⟨st, g, fs, ns, rfl, S, W, hg, hl, ends⟩ := h
    match ns, hl with
    | [r, v], _ =>
      replace ends : CallEnds a K H st fs (Diag.step fs (.var r v)) Q E := ends
      refine ⟨_, rfl, g, _, rfl, SqL.of hg, rfl, _, _, rfl, _, _, rfl, rfl, ?_⟩
      refine ⟨_, rfl, (by show 1 ≤ sizeLine; decide), fun l hl => ⟨l, [r], rfl, SqL.of upd_same, fun ok => ?_, fun bad => ?_⟩⟩
      · have S1 : Same H (upd H l (.lst [nV r])) := Same.upd hl
        rw [regs1] at ok
        have S' := S.same S1
        refine ⟨_, rfl, v, rfl, fun h1 => ?_, fun h1 => ends.no (no_var (by omega)) S1⟩
        refine rd_keep rfl S' ⟨_, rfl, _, rfl, v, rfl, h1, ?_⟩
        exact keep_at ends S S1 ok (vfun_lt h1) (st_var (by omega))
      · rw [regs1] at bad
        exact ends.no (no_var (by omega)) (Same.upd hl)
/-! ### two -/
def mk_two : List Nat → Diag.Call := fun ns => .two (ns.getD 0 0) (ns.getD 1 0) (ns.getD 2 0) (ns.getD 3 0)
theorem scKtwo : FnScope ["state", "given", "r", "op", "a", "b"] ["state", "given"] (defScope s_call_two) := ⟨rfl, rfl, rfl, by decide +kernel, rfl, by decide +kernel, by decide +kernel⟩
theorem ok_ktwo (T : Txt K mg a) : FnOk P w K mg base (L2.CX P w) 8 a.f_call_two a.d_call_two ["state", "given"] (spCall a K 4 mk_two) := by
  refine T.call_two.F.okX scKtwo (fun vs H Q E h => ?_) (fun cdv A outer s H vs Q E hr h => ⟨_, (pss_cons (ps_asg (pv 1) (pg_unl rfl (pgs_cons (pg_name (i := 2) scKtwo.nd rfl (.inl rfl)) (pgs_cons (pg_name (i := 3) scKtwo.nd rfl (.inl rfl)) (pgs_cons (pg_name (i := 4) scKtwo.nd rfl (.inl rfl)) (pgs_cons (pg_name (i := 5) scKtwo.nd rfl (.inl rfl)) pgs_nil))))))
    (pss_cons (ps_expr (pe_call (ok_regs T) (hr.mono (by decide)) rfl T.check_registers.g T.check_registers.F.kp T.check_registers.b .nil (passR (takes_of rfl rfl rfl rfl)) (pa_cons (pe_lst (pa_cons (pv 2) (pa_cons (pv 4) (pa_cons (pv 5) pa_nil)))) pa_nil)))
    (pss_cons (ps_expr (pe_call (ok_below T) (hr.mono (by decide)) rfl T.check_below.g T.check_below.F.kp T.check_below.b .nil (passR (takes_of rfl rfl rfl rfl)) (pa_cons (pv 3) (pa_cons (pe_gi rfl T.i_OPS) pa_nil))))
    (pss_one (ps_ret (pe_meth (pv 0) T.cl_State T.State_keep.M (ok_keep T) (hr.mono (by decide)) T.State_keep.b .nil pass0 (pa_cons (pv 2) (pa_cons (pe_meth (pe_fld (pv 0) rfl) T.cl_Cases T.Cases_combined.M (ok_comb T) (hr.mono (by decide)) T.Cases_combined.b .nil pass0 (pa_cons (pv 3) (pa_cons (pe_ix ix_list (pe_fld (pv 0) rfl) (pv 4) (fun _ _ => rfl)) (pa_cons (pe_ix ix_list (pe_fld (pv 0) rfl) (pv 5) (fun _ _ => rfl)) pa_nil)))) pa_nil)))))))), ?_⟩)
  · obtain ⟨st, g, fs, ns, rfl, _⟩ := h
    rfl
  · obtain ⟨st, g, fs, ns, rfl, S, W, hg, hl, ends⟩ := h
    match ns, hl with
    | [r, op, x, y], _ =>
      replace ends : CallEnds a K H st fs (Diag.step fs (.two r op x y)) Q E := ends
      refine ⟨_, rfl, g, _, rfl, SqL.of hg, rfl, _, _, rfl, _, _, rfl, _, _, rfl, _, _, rfl, rfl, ?_⟩
      refine ⟨_, rfl, _, rfl, _, rfl, (by show 3 ≤ sizeLine; decide), fun l hl => ⟨l, [r, x, y], rfl, SqL.of upd_same, fun ok => ?_, fun bad => ?_⟩⟩
      · have S1 : Same H (upd H l (.lst [nV r, nV x, nV y])) := Same.upd hl
        rw [regs3] at ok
        have S' := S.same S1
        refine ⟨_, rfl, op, 16, rfl, fun h1 => ?_, fun h1 => ends.no (no_two (by omega)) S1⟩
        refine rd_keep rfl S' ⟨_, rfl, rd_cs T rfl S' (by decide +kernel) fun cs C => ⟨_, rfl, rd_regV T rfl rfl S' ok.2.1 (rd_regV T rfl rfl S' ok.2.2 ⟨cs, op, _, _, rfl, C, ?_⟩)⟩⟩
        exact keep_at ends S S1 ok.1 (combN_lt (reg_lt W x) (reg_lt W y)) (st_two W (by omega))
      · rw [regs3] at bad
        exact ends.no (no_two (by omega)) (Same.upd hl)
/-! ### fix -/
def mk_fix : List Nat → Diag.Call := fun ns => .fix (ns.getD 0 0) (ns.getD 1 0) (ns.getD 2 0) (ns.getD 3 0)
theorem scKfix : FnScope ["state", "given", "r", "a", "v", "z"] ["state", "given"] (defScope s_call_fix) := ⟨rfl, rfl, rfl, by decide +kernel, rfl, by decide +kernel, by decide +kernel⟩
theorem ok_kfix (T : Txt K mg a) : FnOk P w K mg base (L2.CX P w) 8 a.f_call_fix a.d_call_fix ["state", "given"] (spCall a K 4 mk_fix) := by
  refine T.call_fix.F.okX scKfix (fun vs H Q E h => ?_) (fun cdv A outer s H vs Q E hr h => ⟨_, (pss_cons (ps_asg (pv 1) (pg_unl rfl (pgs_cons (pg_name (i := 2) scKfix.nd rfl (.inl rfl)) (pgs_cons (pg_name (i := 3) scKfix.nd rfl (.inl rfl)) (pgs_cons (pg_name (i := 4) scKfix.nd rfl (.inl rfl)) (pgs_cons (pg_name (i := 5) scKfix.nd rfl (.inl rfl)) pgs_nil))))))
    (pss_cons (ps_expr (pe_call (ok_regs T) (hr.mono (by decide)) rfl T.check_registers.g T.check_registers.F.kp T.check_registers.b .nil (passR (takes_of rfl rfl rfl rfl)) (pa_cons (pe_lst (pa_cons (pv 2) (pa_cons (pv 3) pa_nil))) pa_nil)))
    (pss_cons (ps_expr (pe_call (ok_var T) (hr.mono (by decide)) rfl T.check_variable.g T.check_variable.F.kp T.check_variable.b .nil (passR (takes_of rfl rfl rfl rfl)) (pa_cons (pv 4) pa_nil)))
    (pss_cons (ps_expr (pe_call (ok_yes T) (hr.mono (by decide)) rfl T.check_yes_or_no.g T.check_yes_or_no.F.kp T.check_yes_or_no.b .nil (passR (takes_of rfl rfl rfl rfl)) (pa_cons (pv 5) pa_nil)))
    (pss_one (ps_ret (pe_meth (pv 0) T.cl_State T.State_keep.M (ok_keep T) (hr.mono (by decide)) T.State_keep.b .nil pass0 (pa_cons (pv 2) (pa_cons (pe_meth (pe_fld (pv 0) rfl) T.cl_Cases T.Cases_fixed.M (ok_fix T) (hr.mono (by decide)) T.Cases_fixed.b .nil pass0 (pa_cons (pe_ix ix_list (pe_fld (pv 0) rfl) (pv 3) (fun _ _ => rfl)) (pa_cons (pv 4) (pa_cons (pv 5) pa_nil)))) pa_nil))))))))), ?_⟩)
  · obtain ⟨st, g, fs, ns, rfl, _⟩ := h
    rfl
  · obtain ⟨st, g, fs, ns, rfl, S, W, hg, hl, ends⟩ := h
    match ns, hl with
    | [r, x, v, z], _ =>
      replace ends : CallEnds a K H st fs (Diag.step fs (.fix r x v z)) Q E := ends
      refine ⟨_, rfl, g, _, rfl, SqL.of hg, rfl, _, _, rfl, _, _, rfl, _, _, rfl, _, _, rfl, rfl, ?_⟩
      refine ⟨_, rfl, _, rfl, (by show 2 ≤ sizeLine; decide), fun l hl => ⟨l, [r, x], rfl, SqL.of upd_same, fun ok => ?_, fun bad => ?_⟩⟩
      · have S1 : Same H (upd H l (.lst [nV r, nV x])) := Same.upd hl
        rw [regs2] at ok
        have S' := S.same S1
        refine ⟨_, rfl, v, rfl, fun h1 => ?_, fun h1 => ends.no (no_fix (by omega)) S1⟩
        refine ⟨_, rfl, z, rfl, fun h2 => ?_, fun h2 => ends.no (no_fix (by omega)) S1⟩
        refine rd_keep rfl S' ⟨_, rfl, rd_cs T rfl S' (by decide +kernel) fun cs C => rd_regV T rfl rfl S' ok.2 ⟨_, rfl, _, rfl, cs, _, v, z, rfl, C, reg_lt W x, h1, ?_⟩⟩
        exact keep_at ends S S1 ok.1 (fixN_lt _ (reg_lt W x) h1) (st_fix W (by omega))
      · rw [regs2] at bad
        exact ends.no (no_fix (by omega)) (Same.upd hl)
/-! ### put -/
def mk_put : List Nat → Diag.Call := fun ns => .put (ns.getD 0 0) (ns.getD 1 0) (ns.getD 2 0) (ns.getD 3 0)
theorem scKput : FnScope ["state", "given", "r", "a", "v", "b"] ["state", "given"] (defScope s_call_put) := ⟨rfl, rfl, rfl, by decide +kernel, rfl, by decide +kernel, by decide +kernel⟩
theorem ok_kput (T : Txt K mg a) : FnOk P w K mg base (L2.CX P w) 8 a.f_call_put a.d_call_put ["state", "given"] (spCall a K 4 mk_put) := by
  refine T.call_put.F.okX scKput (fun vs H Q E h => ?_) (fun cdv A outer s H vs Q E hr h => ⟨_, (pss_cons (ps_asg (pv 1) (pg_unl rfl (pgs_cons (pg_name (i := 2) scKput.nd rfl (.inl rfl)) (pgs_cons (pg_name (i := 3) scKput.nd rfl (.inl rfl)) (pgs_cons (pg_name (i := 4) scKput.nd rfl (.inl rfl)) (pgs_cons (pg_name (i := 5) scKput.nd rfl (.inl rfl)) pgs_nil))))))
    (pss_cons (ps_expr (pe_call (ok_regs T) (hr.mono (by decide)) rfl T.check_registers.g T.check_registers.F.kp T.check_registers.b .nil (passR (takes_of rfl rfl rfl rfl)) (pa_cons (pe_lst (pa_cons (pv 2) (pa_cons (pv 3) (pa_cons (pv 5) pa_nil)))) pa_nil)))
    (pss_cons (ps_expr (pe_call (ok_var T) (hr.mono (by decide)) rfl T.check_variable.g T.check_variable.F.kp T.check_variable.b .nil (passR (takes_of rfl rfl rfl rfl)) (pa_cons (pv 4) pa_nil)))
    (pss_one (ps_ret (pe_meth (pv 0) T.cl_State T.State_keep.M (ok_keep T) (hr.mono (by decide)) T.State_keep.b .nil pass0 (pa_cons (pv 2) (pa_cons (pe_meth (pe_fld (pv 0) rfl) T.cl_Cases T.Cases_composed.M (ok_comp T) (hr.mono (by decide)) T.Cases_composed.b .nil pass0 (pa_cons (pe_ix ix_list (pe_fld (pv 0) rfl) (pv 3) (fun _ _ => rfl)) (pa_cons (pv 4) (pa_cons (pe_ix ix_list (pe_fld (pv 0) rfl) (pv 5) (fun _ _ => rfl)) pa_nil)))) pa_nil)))))))), ?_⟩)
  · obtain ⟨st, g, fs, ns, rfl, _⟩ := h
    rfl
  · obtain ⟨st, g, fs, ns, rfl, S, W, hg, hl, ends⟩ := h
    match ns, hl with
    | [r, x, v, y], _ =>
      replace ends : CallEnds a K H st fs (Diag.step fs (.put r x v y)) Q E := ends
      refine ⟨_, rfl, g, _, rfl, SqL.of hg, rfl, _, _, rfl, _, _, rfl, _, _, rfl, _, _, rfl, rfl, ?_⟩
      refine ⟨_, rfl, _, rfl, _, rfl, (by show 3 ≤ sizeLine; decide), fun l hl => ⟨l, [r, x, y], rfl, SqL.of upd_same, fun ok => ?_, fun bad => ?_⟩⟩
      · have S1 : Same H (upd H l (.lst [nV r, nV x, nV y])) := Same.upd hl
        rw [regs3] at ok
        have S' := S.same S1
        refine ⟨_, rfl, v, rfl, fun h1 => ?_, fun h1 => ends.no (no_put (by omega)) S1⟩
        refine rd_keep rfl S' ⟨_, rfl, rd_cs T rfl S' (by decide +kernel) fun cs C => rd_regV T rfl rfl S' ok.2.1 ⟨_, rfl, rd_regV T rfl rfl S' ok.2.2 ⟨cs, _, v, _, rfl, C, reg_lt W x, h1, ?_⟩⟩⟩
        exact keep_at ends S S1 ok.1 (putN_lt (reg_lt W x) h1) (st_put W (by omega))
      · rw [regs3] at bad
        exact ends.no (no_put (by omega)) (Same.upd hl)
/-! ### both_fixed, some, all -/
def spBoth (a : Ad) : Sp := fun vs H Q _ => ∃ (st : Addr) (fs : List Nat) (x v : Nat), vs = [.ref st, nV x, nV v] ∧ StateAt a H st fs ∧ Wf fs ∧ x < 16 ∧ v < 10 ∧ ∀ p, H p = none → Q (.ref p) (upd H p (.tup [nV (fixN (Diag.reg fs x) v false), nV (fixN (Diag.reg fs x) v true)]))
theorem scBoth : FnScope ["state", "a", "v", "function"] ["state", "a", "v"] (defScope s_both_fixed) := ⟨rfl, rfl, rfl, by decide +kernel, rfl, by decide +kernel, by decide +kernel⟩
theorem ok_both (T : Txt K mg a) : FnOk P w K mg base CX0 2 a.f_both_fixed a.d_both_fixed ["state", "a", "v"] (spBoth a) := by
  refine T.both_fixed.F.ok scBoth (fun vs H Q E h => ?_) (fun cdv A outer s H vs Q E hr h => ⟨_, pss_cons (ps_set (i := 3) scBoth.nd rfl (.inl rfl) (pe_ix ix_list (pe_fld (pv 0) rfl) (pv 1) (fun _ _ => rfl)))
    (pss_one (ps_ret (pe_tup (pa_cons (pe_meth (pe_fld (pv 0) rfl) T.cl_Cases T.Cases_fixed.M (ok_fix T) (hr.mono (by decide)) T.Cases_fixed.b .nil pass0 (pa_cons (pv 3) (pa_cons (pv 2) (pa_cons pe_int pa_nil)))) (pa_cons (pe_meth (pe_fld (pv 0) rfl) T.cl_Cases T.Cases_fixed.M (ok_fix T) (hr.mono (by decide)) T.Cases_fixed.b .nil pass0 (pa_cons (pv 3) (pa_cons (pv 2) (pa_cons pe_int pa_nil)))) pa_nil))))), ?_⟩)
  · obtain ⟨st, fs, x, v, rfl, _⟩ := h
    rfl
  · obtain ⟨st, fs, x, v, rfl, S, W, hx, hv, q⟩ := h
    refine rd_regV T rfl rfl S hx ?_
    refine rd_cs T rfl S (by decide +kernel) fun cs C => ⟨_, rfl, _, rfl, cs, _, v, 0, rfl, C, reg_lt W x, hv, ?_⟩
    refine rd_cs T rfl S (by decide +kernel) fun cs C => ⟨_, rfl, _, rfl, cs, _, v, 1, rfl, C, reg_lt W x, hv, ?_⟩
    exact ⟨(by show 2 ≤ sizeLine; decide), q⟩
/-! ### some -/
def mk_some : List Nat → Diag.Call := fun ns => .some_ (ns.getD 0 0) (ns.getD 1 0) (ns.getD 2 0)
theorem scKsome : FnScope ["state", "given", "r", "a", "v", "for_no", "for_yes"] ["state", "given"] (defScope s_call_some) := ⟨rfl, rfl, rfl, by decide +kernel, rfl, by decide +kernel, by decide +kernel⟩
theorem ok_ksome (T : Txt K mg a) : FnOk P w K mg base (L2.CX P w) 8 a.f_call_some a.d_call_some ["state", "given"] (spCall a K 3 mk_some) := by
  refine T.call_some.F.okX scKsome (fun vs H Q E h => ?_) (fun cdv A outer s H vs Q E hr h => ⟨_, (pss_cons (ps_asg (pv 1) (pg_unl rfl (pgs_cons (pg_name (i := 2) scKsome.nd rfl (.inl rfl)) (pgs_cons (pg_name (i := 3) scKsome.nd rfl (.inl rfl)) (pgs_cons (pg_name (i := 4) scKsome.nd rfl (.inl rfl)) pgs_nil)))))
    (pss_cons (ps_expr (pe_call (ok_regs T) (hr.mono (by decide)) rfl T.check_registers.g T.check_registers.F.kp T.check_registers.b .nil (passR (takes_of rfl rfl rfl rfl)) (pa_cons (pe_lst (pa_cons (pv 2) (pa_cons (pv 3) pa_nil))) pa_nil)))
    (pss_cons (ps_expr (pe_call (ok_var T) (hr.mono (by decide)) rfl T.check_variable.g T.check_variable.F.kp T.check_variable.b .nil (passR (takes_of rfl rfl rfl rfl)) (pa_cons (pv 4) pa_nil)))
    (pss_cons (ps_asg (pe_call (ok_both T) (hr.mono (by decide)) rfl T.both_fixed.g T.both_fixed.F.kp T.both_fixed.b .nil pass0 (pa_cons (pv 0) (pa_cons (pv 3) (pa_cons (pv 4) pa_nil)))) (pg_tup rfl (pgs_cons (pg_name (i := 5) scKsome.nd rfl (.inl rfl)) (pgs_cons (pg_name (i := 6) scKsome.nd rfl (.inl rfl)) pgs_nil))))
    (pss_one (ps_ret (pe_meth (pv 0) T.cl_State T.State_keep.M (ok_keep T) (hr.mono (by decide)) T.State_keep.b .nil pass0 (pa_cons (pv 2) (pa_cons (pe_op opn_or (pv 5) (pv 6)) pa_nil))))))))), ?_⟩)
  · obtain ⟨st, g, fs, ns, rfl, _⟩ := h
    rfl
  · obtain ⟨st, g, fs, ns, rfl, S, W, hg, hl, ends⟩ := h
    match ns, hl with
    | [r, x, v], _ =>
      replace ends : CallEnds a K H st fs (Diag.step fs (.some_ r x v)) Q E := ends
      refine ⟨_, rfl, g, _, rfl, SqL.of hg, rfl, _, _, rfl, _, _, rfl, _, _, rfl, rfl, ?_⟩
      refine ⟨_, rfl, _, rfl, (by show 2 ≤ sizeLine; decide), fun l hl => ⟨l, [r, x], rfl, SqL.of upd_same, fun ok => ?_, fun bad => ?_⟩⟩
      · have S1 : Same H (upd H l (.lst [nV r, nV x])) := Same.upd hl
        rw [regs2] at ok
        have S' := S.same S1
        refine ⟨_, rfl, v, rfl, fun h1 => ?_, fun h1 => ends.no (no_some (by omega)) S1⟩
        refine ⟨_, rfl, _, rfl, _, rfl, st, fs, x, v, rfl, S', W, ok.2, h1, fun p hp => ⟨p, _, rfl, .inl (.inl upd_same), rfl, _, _, rfl, _, _, rfl, rfl, ?_⟩⟩
        have S2 := Same.new S1 (o := .tup [nV (fixN (Diag.reg fs x) v false), nV (fixN (Diag.reg fs x) v true)]) hp
        refine rd_keep rfl (S.same S2) ⟨_, rfl, _, rfl, _, rfl, _, _, rfl, rfl, ?_⟩
        exact keep_at ends S S2 ok.1 (Nat.or_lt_two_pow (fixN_lt _ (reg_lt W x) h1) (fixN_lt _ (reg_lt W x) h1)) (st_some W (by omega))
      · rw [regs2] at bad
        exact ends.no (no_some (by omega)) (Same.upd hl)
/-! ### all -/
def mk_all : List Nat → Diag.Call := fun ns => .all_ (ns.getD 0 0) (ns.getD 1 0) (ns.getD 2 0)
theorem scKall : FnScope ["state", "given", "r", "a", "v", "for_no", "for_yes"] ["state", "given"] (defScope s_call_all) := ⟨rfl, rfl, rfl, by decide +kernel, rfl, by decide +kernel, by decide +kernel⟩
theorem ok_kall (T : Txt K mg a) : FnOk P w K mg base (L2.CX P w) 8 a.f_call_all a.d_call_all ["state", "given"] (spCall a K 3 mk_all) := by
  refine T.call_all.F.okX scKall (fun vs H Q E h => ?_) (fun cdv A outer s H vs Q E hr h => ⟨_, (pss_cons (ps_asg (pv 1) (pg_unl rfl (pgs_cons (pg_name (i := 2) scKall.nd rfl (.inl rfl)) (pgs_cons (pg_name (i := 3) scKall.nd rfl (.inl rfl)) (pgs_cons (pg_name (i := 4) scKall.nd rfl (.inl rfl)) pgs_nil)))))
    (pss_cons (ps_expr (pe_call (ok_regs T) (hr.mono (by decide)) rfl T.check_registers.g T.check_registers.F.kp T.check_registers.b .nil (passR (takes_of rfl rfl rfl rfl)) (pa_cons (pe_lst (pa_cons (pv 2) (pa_cons (pv 3) pa_nil))) pa_nil)))
    (pss_cons (ps_expr (pe_call (ok_var T) (hr.mono (by decide)) rfl T.check_variable.g T.check_variable.F.kp T.check_variable.b .nil (passR (takes_of rfl rfl rfl rfl)) (pa_cons (pv 4) pa_nil)))
    (pss_cons (ps_asg (pe_call (ok_both T) (hr.mono (by decide)) rfl T.both_fixed.g T.both_fixed.F.kp T.both_fixed.b .nil pass0 (pa_cons (pv 0) (pa_cons (pv 3) (pa_cons (pv 4) pa_nil)))) (pg_tup rfl (pgs_cons (pg_name (i := 5) scKall.nd rfl (.inl rfl)) (pgs_cons (pg_name (i := 6) scKall.nd rfl (.inl rfl)) pgs_nil))))
    (pss_one (ps_ret (pe_meth (pv 0) T.cl_State T.State_keep.M (ok_keep T) (hr.mono (by decide)) T.State_keep.b .nil pass0 (pa_cons (pv 2) (pa_cons (pe_op opn_and (pv 5) (pv 6)) pa_nil))))))))), ?_⟩)
  · obtain ⟨st, g, fs, ns, rfl, _⟩ := h
    rfl
  · obtain ⟨st, g, fs, ns, rfl, S, W, hg, hl, ends⟩ := h
    match ns, hl with
    | [r, x, v], _ =>
      replace ends : CallEnds a K H st fs (Diag.step fs (.all_ r x v)) Q E := ends
      refine ⟨_, rfl, g, _, rfl, SqL.of hg, rfl, _, _, rfl, _, _, rfl, _, _, rfl, rfl, ?_⟩
      refine ⟨_, rfl, _, rfl, (by show 2 ≤ sizeLine; decide), fun l hl => ⟨l, [r, x], rfl, SqL.of upd_same, fun ok => ?_, fun bad => ?_⟩⟩
      · have S1 : Same H (upd H l (.lst [nV r, nV x])) := Same.upd hl
        rw [regs2] at ok
        have S' := S.same S1
        refine ⟨_, rfl, v, rfl, fun h1 => ?_, fun h1 => ends.no (no_all (by omega)) S1⟩
        refine ⟨_, rfl, _, rfl, _, rfl, st, fs, x, v, rfl, S', W, ok.2, h1, fun p hp => ⟨p, _, rfl, .inl (.inl upd_same), rfl, _, _, rfl, _, _, rfl, rfl, ?_⟩⟩
        have S2 := Same.new S1 (o := .tup [nV (fixN (Diag.reg fs x) v false), nV (fixN (Diag.reg fs x) v true)]) hp
        refine rd_keep rfl (S.same S2) ⟨_, rfl, _, rfl, _, rfl, _, _, rfl, rfl, ?_⟩
        exact keep_at ends S S2 ok.1 (Nat.and_lt_two_pow _ (fixN_lt _ (reg_lt W x) h1)) (st_all W (by omega))
      · rw [regs2] at bad
        exact ends.no (no_all (by omega)) (Same.upd hl)
/-! ### not -/
def mk_not : List Nat → Diag.Call := fun ns => .not_ (ns.getD 0 0) (ns.getD 1 0)
theorem scKnot : FnScope ["state", "given", "r", "a"] ["state", "given"] (defScope s_call_not) := ⟨rfl, rfl, rfl, by decide +kernel, rfl, by decide +kernel, by decide +kernel⟩
theorem ok_knot (T : Txt K mg a) : FnOk P w K mg base (L2.CX P w) 8 a.f_call_not a.d_call_not ["state", "given"] (spCall a K 2 mk_not) := by
  refine T.call_not.F.okX scKnot (fun vs H Q E h => ?_) (fun cdv A outer s H vs Q E hr h => ⟨_, (pss_cons (ps_expr (pe_call (ok_regs T) (hr.mono (by decide)) rfl T.check_registers.g T.check_registers.F.kp T.check_registers.b .nil (passR (takes_of rfl rfl rfl rfl)) (pa_cons (pv 1) pa_nil)))
    (pss_cons (ps_asg (pv 1) (pg_unl rfl (pgs_cons (pg_name (i := 2) scKnot.nd rfl (.inl rfl)) (pgs_cons (pg_name (i := 3) scKnot.nd rfl (.inl rfl)) pgs_nil))))
    (pss_one (ps_ret (pe_meth (pv 0) T.cl_State T.State_keep.M (ok_keep T) (hr.mono (by decide)) T.State_keep.b .nil pass0 (pa_cons (pv 2) (pa_cons (pe_meth (pe_fld (pv 0) rfl) T.cl_Cases T.Cases_opposite.M (ok_opp T) (hr.mono (by decide)) T.Cases_opposite.b .nil pass0 (pa_cons (pe_ix ix_list (pe_fld (pv 0) rfl) (pv 3) (fun _ _ => rfl)) pa_nil)) pa_nil))))))), ?_⟩)
  · obtain ⟨st, g, fs, ns, rfl, _⟩ := h
    rfl
  · obtain ⟨st, g, fs, ns, rfl, S, W, hg, hl, ends⟩ := h
    match ns, hl with
    | [r, x], _ =>
      replace ends : CallEnds a K H st fs (Diag.step fs (.not_ r x)) Q E := ends
      refine ⟨_, rfl, g, _, rfl, SqL.of hg, fun ok => ?_, fun bad => ends.no (no_not (by rw [regs2] at bad; exact bad)) (Same.refl H)⟩
      rw [regs2] at ok
      refine ⟨_, rfl, g, _, rfl, SqL.of hg, rfl, _, _, rfl, _, _, rfl, rfl, ?_⟩
      refine rd_keep rfl S ⟨_, rfl, rd_cs T rfl S (by decide +kernel) fun cs C => rd_regV T rfl rfl S ok.2 ⟨cs, _, rfl, C, ?_⟩⟩
      exact keep_at ends S (Same.refl H) ok.1 (notN_lt (reg_lt W x)) (st_not W ok)
/-! ### choose -/
def mk_choose : List Nat → Diag.Call := fun ns => .choose (ns.getD 0 0) (ns.getD 1 0) (ns.getD 2 0) (ns.getD 3 0)
theorem scKchoose : FnScope ["state", "given", "r", "a", "b", "c"] ["state", "given"] (defScope s_call_choose) := ⟨rfl, rfl, rfl, by decide +kernel, rfl, by decide +kernel, by decide +kernel⟩
theorem ok_kchoose (T : Txt K mg a) : FnOk P w K mg base (L2.CX P w) 8 a.f_call_choose a.d_call_choose ["state", "given"] (spCall a K 4 mk_choose) := by
  refine T.call_choose.F.okX scKchoose (fun vs H Q E h => ?_) (fun cdv A outer s H vs Q E hr h => ⟨_, (pss_cons (ps_expr (pe_call (ok_regs T) (hr.mono (by decide)) rfl T.check_registers.g T.check_registers.F.kp T.check_registers.b .nil (passR (takes_of rfl rfl rfl rfl)) (pa_cons (pv 1) pa_nil)))
    (pss_cons (ps_asg (pv 1) (pg_unl rfl (pgs_cons (pg_name (i := 2) scKchoose.nd rfl (.inl rfl)) (pgs_cons (pg_name (i := 3) scKchoose.nd rfl (.inl rfl)) (pgs_cons (pg_name (i := 4) scKchoose.nd rfl (.inl rfl)) (pgs_cons (pg_name (i := 5) scKchoose.nd rfl (.inl rfl)) pgs_nil))))))
    (pss_one (ps_ret (pe_meth (pv 0) T.cl_State T.State_keep.M (ok_keep T) (hr.mono (by decide)) T.State_keep.b .nil pass0 (pa_cons (pv 2) (pa_cons (pe_meth (pe_fld (pv 0) rfl) T.cl_Cases T.Cases_chosen.M (ok_chos T) (hr.mono (by decide)) T.Cases_chosen.b .nil pass0 (pa_cons (pe_ix ix_list (pe_fld (pv 0) rfl) (pv 3) (fun _ _ => rfl)) (pa_cons (pe_ix ix_list (pe_fld (pv 0) rfl) (pv 4) (fun _ _ => rfl)) (pa_cons (pe_ix ix_list (pe_fld (pv 0) rfl) (pv 5) (fun _ _ => rfl)) pa_nil)))) pa_nil))))))), ?_⟩)
  · obtain ⟨st, g, fs, ns, rfl, _⟩ := h
    rfl
  · obtain ⟨st, g, fs, ns, rfl, S, W, hg, hl, ends⟩ := h
    match ns, hl with
    | [r, x, y, z], _ =>
      replace ends : CallEnds a K H st fs (Diag.step fs (.choose r x y z)) Q E := ends
      refine ⟨_, rfl, g, _, rfl, SqL.of hg, fun ok => ?_, fun bad => ends.no (no_choose (by rw [regs4] at bad; exact bad)) (Same.refl H)⟩
      rw [regs4] at ok
      refine ⟨_, rfl, g, _, rfl, SqL.of hg, rfl, _, _, rfl, _, _, rfl, _, _, rfl, _, _, rfl, rfl, ?_⟩
      refine rd_keep rfl S ⟨_, rfl, rd_cs T rfl S (by decide +kernel) fun cs C => rd_regV T rfl rfl S ok.2.1 (rd_regV T rfl rfl S ok.2.2.1 (rd_regV T rfl rfl S ok.2.2.2 ⟨cs, _, _, _, rfl, C, ?_⟩))⟩
      exact keep_at ends S (Same.refl H) ok.1 (choN_lt (reg_lt W y) (reg_lt W z)) (st_choose W ok)
/-! ### value -/
def mk_value : List Nat → Diag.Call := fun ns => .value (ns.getD 0 0) (ns.getD 1 0)
theorem scKvalue : FnScope ["state", "given", "a", "m"] ["state", "given"] (defScope s_call_value) := ⟨rfl, rfl, rfl, by decide +kernel, rfl, by decide +kernel, by decide +kernel⟩
theorem ok_kvalue (T : Txt K mg a) : FnOk P w K mg base (L2.CX P w) 8 a.f_call_value a.d_call_value ["state", "given"] (spCall a K 2 mk_value) := by
  refine T.call_value.F.okX scKvalue (fun vs H Q E h => ?_) (fun cdv A outer s H vs Q E hr h => ⟨_, (pss_cons (ps_asg (pv 1) (pg_unl rfl (pgs_cons (pg_name (i := 2) scKvalue.nd rfl (.inl rfl)) (pgs_cons (pg_name (i := 3) scKvalue.nd rfl (.inl rfl)) pgs_nil))))
    (pss_cons (ps_expr (pe_call (ok_regs T) (hr.mono (by decide)) rfl T.check_registers.g T.check_registers.F.kp T.check_registers.b .nil (passR (takes_of rfl rfl rfl rfl)) (pa_cons (pe_lst (pa_cons (pv 2) pa_nil)) pa_nil)))
    (pss_cons (ps_expr (pe_call (ok_below T) (hr.mono (by decide)) rfl T.check_below.g T.check_below.F.kp T.check_below.b .nil (passR (takes_of rfl rfl rfl rfl)) (pa_cons (pv 3) (pa_cons (pe_gi rfl T.i_CASES) pa_nil))))
    (pss_one (ps_ret (pe_lst (pa_cons (pe_call (ok_says T) (hr.mono (by decide)) rfl T.says.g T.says.F.kp T.says.b .nil pass0 (pa_cons (pe_ix ix_list (pe_fld (pv 0) rfl) (pv 2) (fun _ _ => rfl)) (pa_cons (pv 3) pa_nil))) pa_nil))))))), ?_⟩)
  · obtain ⟨st, g, fs, ns, rfl, _⟩ := h
    rfl
  · obtain ⟨st, g, fs, ns, rfl, S, W, hg, hl, ends⟩ := h
    match ns, hl with
    | [x, m], _ =>
      replace ends : CallEnds a K H st fs (Diag.step fs (.value x m)) Q E := ends
      refine ⟨_, rfl, g, _, rfl, SqL.of hg, rfl, _, _, rfl, _, _, rfl, rfl, ?_⟩
      refine ⟨_, rfl, (by show 1 ≤ sizeLine; decide), fun l hl => ⟨l, [x], rfl, SqL.of upd_same, fun ok => ?_, fun bad => ?_⟩⟩
      · have S1 : Same H (upd H l (.lst [nV x])) := Same.upd hl
        rw [regs1] at ok
        refine ⟨_, rfl, m, 1024, rfl, fun h1 => ?_, fun h1 => ends.no (no_value (by omega)) S1⟩
        refine rd_regV T rfl rfl (S.same S1) ok ⟨_, rfl, _, m, rfl, (by show 1 ≤ sizeLine; decide), fun p hp => ?_⟩
        exact ends.told S (st_value (by omega)) (Same.new S1 hp) (Same.free S1 hp) upd_same
      · rw [regs1] at bad
        exact ends.no (no_value (by omega)) (Same.upd hl)
/-! ### count -/
def mk_count : List Nat → Diag.Call := fun ns => .count (ns.getD 0 0)
theorem scKcount : FnScope ["state", "given"] ["state", "given"] (defScope s_call_count) := ⟨rfl, rfl, rfl, by decide +kernel, rfl, by decide +kernel, by decide +kernel⟩
theorem ok_kcount (T : Txt K mg a) : FnOk P w K mg base (L2.CX P w) 8 a.f_call_count a.d_call_count ["state", "given"] (spCall a K 1 mk_count) := by
  refine T.call_count.F.okX scKcount (fun vs H Q E h => ?_) (fun cdv A outer s H vs Q E hr h => ⟨_, (pss_cons (ps_expr (pe_call (ok_regs T) (hr.mono (by decide)) rfl T.check_registers.g T.check_registers.F.kp T.check_registers.b .nil (passR (takes_of rfl rfl rfl rfl)) (pa_cons (pv 1) pa_nil)))
    (pss_one (ps_ret (pe_lst (pa_cons (pe_meth (pe_fld (pv 0) rfl) T.cl_Cases T.Cases_how_many.M (ok_hm T) (hr.mono (by decide)) T.Cases_how_many.b .nil pass0 (pa_cons (pe_ix ix_list (pe_fld (pv 0) rfl) (pe_ix ix_list (pv 1) pe_int (fun _ _ => rfl)) (fun _ _ => rfl)) pa_nil)) pa_nil))))), ?_⟩)
  · obtain ⟨st, g, fs, ns, rfl, _⟩ := h
    rfl
  · obtain ⟨st, g, fs, ns, rfl, S, W, hg, hl, ends⟩ := h
    match ns, hl with
    | [x], _ =>
      replace ends : CallEnds a K H st fs (Diag.step fs (.count x)) Q E := ends
      refine ⟨_, rfl, g, _, rfl, SqL.of hg, fun ok => ?_, fun bad => ends.no (no_count (by rw [regs1] at bad; exact bad)) (Same.refl H)⟩
      rw [regs1] at ok
      refine rd_cs T rfl S (by decide +kernel) fun cs C => rd_reg T rfl S ok ⟨_, rfl, g, _, 0, _, rfl, rfl, SqL.of hg, at_nat (j := 0) rfl, rfl, rfl⟩ (fun _ _ k ⟨y, e, p, xs, i, u, e1, e2, e3, e4, z⟩ => ⟨y, e, p, xs, i, u, e1, e2, e3, e4, k _ _ z⟩) ⟨cs, _, rfl, C, (by show 1 ≤ sizeLine; decide), fun p hp => ?_⟩
      exact ends.told S (st_count W ok) (Same.upd hp) hp upd_same
/-! ### first -/
def mk_first : List Nat → Diag.Call := fun ns => .first (ns.getD 0 0) (ns.getD 1 0)
theorem scKfirst : FnScope ["state", "given", "a", "m", "case"] ["state", "given"] (defScope s_call_first) := ⟨rfl, rfl, rfl, by decide +kernel, rfl, by decide +kernel, by decide +kernel⟩
theorem ok_kfirst (T : Txt K mg a) : FnOk P w K mg base (L2.CX P w) 8 a.f_call_first a.d_call_first ["state", "given"] (spCall a K 2 mk_first) := by
  refine T.call_first.F.okX scKfirst (fun vs H Q E h => ?_) (fun cdv A outer s H vs Q E hr h => ⟨_, (pss_cons (ps_asg (pv 1) (pg_unl rfl (pgs_cons (pg_name (i := 2) scKfirst.nd rfl (.inl rfl)) (pgs_cons (pg_name (i := 3) scKfirst.nd rfl (.inl rfl)) pgs_nil))))
    (pss_cons (ps_expr (pe_call (ok_regs T) (hr.mono (by decide)) rfl T.check_registers.g T.check_registers.F.kp T.check_registers.b .nil (passR (takes_of rfl rfl rfl rfl)) (pa_cons (pe_lst (pa_cons (pv 2) pa_nil)) pa_nil)))
    (pss_cons (ps_set (i := 4) scKfirst.nd rfl (.inl rfl) (pe_call (ok_least T) (hr.mono (by decide)) rfl T.least_case.g T.least_case.F.kp T.least_case.b .nil pass0 (pa_cons (pe_ix ix_list (pe_fld (pv 0) rfl) (pv 2) (fun _ _ => rfl)) (pa_cons (pv 3) pa_nil))))
    (pss_cons (ps_if (pt_cmpR op_isN (pv 4) pe_non (nomark _)) (pss_one (ps_raise rfl (takes_of rfl rfl rfl rfl) (pmk_x T.x_NoCase (ok_noc T) (hr.mono (by decide)) T.NoCase_init_b pass0 rfl))) pss_nil)
    (pss_one (ps_ret (pe_lst (pa_cons (pv 4) pa_nil)))))))), ?_⟩)
  · obtain ⟨st, g, fs, ns, rfl, _⟩ := h
    rfl
  · obtain ⟨st, g, fs, ns, rfl, S, W, hg, hl, ends⟩ := h
    match ns, hl with
    | [x, m], _ =>
      replace ends : CallEnds a K H st fs (Diag.step fs (.first x m)) Q E := ends
      refine ⟨_, rfl, g, _, rfl, SqL.of hg, rfl, _, _, rfl, _, _, rfl, rfl, ?_⟩
      refine ⟨_, rfl, (by show 1 ≤ sizeLine; decide), fun l hl => ⟨l, [x], rfl, SqL.of upd_same, fun ok => ?_, fun bad => ?_⟩⟩
      · have S1 : Same H (upd H l (.lst [nV x])) := Same.upd hl
        rw [regs1] at ok
        refine rd_regV T rfl rfl (S.same S1) ok ⟨_, rfl, _, m, rfl, reg_lt W x, ?_⟩
        have e := st_first (fs := fs) (m := m) ok
        cases hh : leastN (Diag.reg fs x) m with
        | none =>
          rw [hh] at e
          exact ⟨_, rfl, rfl, _, rfl, (ends.no e S1).at (σ := []) T.x_NoCase⟩
        | some k =>
          rw [hh] at e
          refine ⟨_, rfl, rfl, _, rfl, _, rfl, (by show 1 ≤ sizeLine; decide), fun p hp => ?_⟩
          exact ends.told S e (Same.new S1 hp) (Same.free S1 hp) upd_same
      · rw [regs1] at bad
        exact ends.no (no_first bad) (Same.upd hl)
/-! ### with_length -/
def spWl : Sp := fun vs H Q _ => ∃ (l : Addr) (xs : List V), vs = [.ref l] ∧ H l = some (.lst xs) ∧ xs.length < 16000000 ∧ ∀ H' p, Same H H' → H p = none → H' p = some (.lst (V.int (xs.length : Nat) :: xs)) → Q (.ref p) H'
theorem scWl : FnScope ["numbers"] ["numbers"] (defScope s_with_length) := ⟨rfl, rfl, rfl, by decide +kernel, rfl, by decide +kernel, by decide +kernel⟩
theorem ok_wl (T : Txt K mg a) : FnOk P w K mg base CX0 1 a.f_with_length a.d_with_length ["numbers"] spWl := by
  refine T.with_length.F.ok scWl (fun vs H Q E h => ?_) (fun cdv A outer s H vs Q E hr h => ⟨_, pss_one (ps_ret (pe_op op_cat (pe_lst (pa_cons (pe_callB call_len_seq (by rfl) T.b_len PySem.boot_len (pa_cons (pv 0) pa_nil)) pa_nil)) (pv 0))), ?_⟩)
  · obtain ⟨l, xs, rfl, _⟩ := h
    rfl
  · obtain ⟨l, xs, rfl, hl, hz, q⟩ := h
    refine ⟨_, rfl, l, xs, rfl, .inl (SqL.of hl), (by show 1 ≤ sizeLine; decide), fun p hp => ?_⟩
    refine ⟨_, rfl, p, l, [V.int (xs.length : Nat)], xs, rfl, rfl, upd_same, ?_, ?_, fun r hr2 => ?_⟩
    · rw [upd_ne (ne_of_none hl hp)]
      exact hl
    · show 1 + xs.length ≤ sizeLine
      rw [sizeLine_eq]
      omega
    · exact q _ r (Same.new (Same.upd hp) hr2) (Same.free (Same.upd hp) hr2) upd_same
theorem rd_wl (T : Txt K mg a) {H : Hp} {l : Addr} {xs : List V} {Q : VK} (hl : H l = some (.lst xs)) (hz : xs.length < 16000000) (q : ∀ H' p, Same H H' → H p = none → H' p = some (.lst (V.int (xs.length : Nat) :: xs)) → Q (.ref p) H') : spWl [.ref l] H Q E0 := ⟨l, xs, rfl, hl, hz, q⟩
theorem hangs_len (f : Nat) : (hangs f).length ≤ 10 := by
  unfold hangs
  refine Nat.le_trans (List.length_filter_le _ _) ?_
  rw [List.length_range]
  exact Nat.le_refl _
theorem shV_lists (l : List Nat) : shV (Diag.lists l) = nV l.length :: nV l.length :: nVs l := by
  show (([((l.length : Nat) : Int)] ++ ([l].flatMap fun (l : List Nat) => (l.length : Int) :: l.map fun (n : Nat) => (n : Int))).map V.int) = _
  rw [nVs_ints]
  simp
/-! ### matters -/
def mk_matters : List Nat → Diag.Call := fun ns => .matters (ns.getD 0 0)
theorem scKmatters : FnScope ["state", "given", "variables"] ["state", "given"] (defScope s_call_matters) := ⟨rfl, rfl, rfl, by decide +kernel, rfl, by decide +kernel, by decide +kernel⟩
theorem ok_kmatters (T : Txt K mg a) : FnOk P w K mg base (L2.CX P w) 8 a.f_call_matters a.d_call_matters ["state", "given"] (spCall a K 1 mk_matters) := by
  refine T.call_matters.F.okX scKmatters (fun vs H Q E h => ?_) (fun cdv A outer s H vs Q E hr h => ⟨_, (pss_cons (ps_expr (pe_call (ok_regs T) (hr.mono (by decide)) rfl T.check_registers.g T.check_registers.F.kp T.check_registers.b .nil (passR (takes_of rfl rfl rfl rfl)) (pa_cons (pv 1) pa_nil)))
    (pss_cons (ps_set (i := 2) scKmatters.nd rfl (.inl rfl) (pe_meth (pe_fld (pv 0) rfl) T.cl_Cases T.Cases_mattering.M (ok_mtg T) (hr.mono (by decide)) T.Cases_mattering.b .nil pass0 (pa_cons (pe_ix ix_list (pe_fld (pv 0) rfl) (pe_ix ix_list (pv 1) pe_int (fun _ _ => rfl)) (fun _ _ => rfl)) pa_nil)))
    (pss_one (ps_ret (pe_op op_cat (pe_lst (pa_cons (pe_callB call_len_seq (by rfl) T.b_len PySem.boot_len (pa_cons (pv 2) pa_nil)) pa_nil)) (pe_call (ok_wl T) (hr.mono (by decide)) rfl T.with_length.g T.with_length.F.kp T.with_length.b .nil pass0 (pa_cons (pv 2) pa_nil))))))), ?_⟩)
  · obtain ⟨st, g, fs, ns, rfl, _⟩ := h
    rfl
  · obtain ⟨st, g, fs, ns, rfl, S, W, hg, hl, ends⟩ := h
    match ns, hl with
    | [x], _ =>
      replace ends : CallEnds a K H st fs (Diag.step fs (.matters x)) Q E := ends
      refine ⟨_, rfl, g, _, rfl, SqL.of hg, fun ok => ?_, fun bad => ends.no (no_matters (by rw [regs1] at bad; exact bad)) (Same.refl H)⟩
      rw [regs1] at ok
      refine rd_cs T rfl S (by decide +kernel) fun cs C => rd_reg T rfl S ok ⟨_, rfl, g, _, 0, _, rfl, rfl, SqL.of hg, at_nat (j := 0) rfl, rfl, rfl⟩ (fun _ _ k ⟨y, e, p, xs, i, u, e1, e2, e3, e4, z⟩ => ⟨y, e, p, xs, i, u, e1, e2, e3, e4, k _ _ z⟩) ⟨cs, _, rfl, C, reg_lt W x, fun H1 p S1 hp ep => ?_⟩
      refine ⟨_, rfl, p, _, rfl, .inl (SqL.of ep), (by show 1 ≤ sizeLine; decide), fun l hl => ?_⟩
      have hz := hangs_len (Diag.reg fs x)
      have ep2 : upd H1 l (.lst [V.int ((nVs (hangs (Diag.reg fs x))).length : Nat)]) p = some (.lst (nVs (hangs (Diag.reg fs x)))) := by
        rw [upd_ne (ne_of_none ep hl)]
        exact ep
      refine ⟨_, rfl, p, _, rfl, ep2, (by rw [nVs_len]; omega), fun H2 q S2 hq eq => ?_⟩
      refine ⟨l, q, _, _, rfl, rfl, S2 _ _ upd_same, eq, ?_, fun r hr2 => ?_⟩
      · simp only [List.length_cons, List.length_nil, nVs_len, sizeLine_eq]
        omega
      · have S3 : Same H H2 := Same.trans (Same.new S1 hl) S2
        refine ends.told S (st_matters W ok) (Same.new S3 hr2) (Same.free S3 hr2) ?_
        rw [upd_same, shV_lists, nVs_len]
        rfl
/-! ### within -/
def mk_within : List Nat → Diag.Call := fun ns => .within (ns.getD 0 0) (ns.getD 1 0)
theorem scKwithin : FnScope ["state", "given", "a", "b", "outside"] ["state", "given"] (defScope s_call_within) := ⟨rfl, rfl, rfl, by decide +kernel, rfl, by decide +kernel, by decide +kernel⟩
theorem ok_kwithin (T : Txt K mg a) : FnOk P w K mg base (L2.CX P w) 8 a.f_call_within a.d_call_within ["state", "given"] (spCall a K 2 mk_within) := by
  refine T.call_within.F.okX scKwithin (fun vs H Q E h => ?_) (fun cdv A outer s H vs Q E hr h => ⟨_, (pss_cons (ps_expr (pe_call (ok_regs T) (hr.mono (by decide)) rfl T.check_registers.g T.check_registers.F.kp T.check_registers.b .nil (passR (takes_of rfl rfl rfl rfl)) (pa_cons (pv 1) pa_nil)))
    (pss_cons (ps_asg (pv 1) (pg_unl rfl (pgs_cons (pg_name (i := 2) scKwithin.nd rfl (.inl rfl)) (pgs_cons (pg_name (i := 3) scKwithin.nd rfl (.inl rfl)) pgs_nil))))
    (pss_cons (ps_set (i := 4) scKwithin.nd rfl (.inl rfl) (pe_op opn_and (pe_ix ix_list (pe_fld (pv 0) rfl) (pv 2) (fun _ _ => rfl)) (pe_meth (pe_fld (pv 0) rfl) T.cl_Cases T.Cases_opposite.M (ok_opp T) (hr.mono (by decide)) T.Cases_opposite.b .nil pass0 (pa_cons (pe_ix ix_list (pe_fld (pv 0) rfl) (pv 3) (fun _ _ => rfl)) pa_nil))))
    (pss_cons (ps_if (pt_cmpR opn_eq (pv 4) (pe_gi rfl T.i_NO_EVERYWHERE) (nomark _)) (pss_one (ps_ret (pe_lst (pa_cons pe_int pa_nil)))) pss_nil)
    (pss_one (ps_ret (pe_op op_cat (pe_lst (pa_cons pe_int pa_nil)) (pe_call (ok_wl T) (hr.mono (by decide)) rfl T.with_length.g T.with_length.F.kp T.with_length.b .nil pass0 (pa_cons (pe_lst (pa_cons (pe_call (ok_least T) (hr.mono (by decide)) rfl T.least_case.g T.least_case.F.kp T.least_case.b .nil pass0 (pa_cons (pv 4) (pa_cons pe_int pa_nil))) pa_nil)) pa_nil))))))))), ?_⟩)
  · obtain ⟨st, g, fs, ns, rfl, _⟩ := h
    rfl
  · obtain ⟨st, g, fs, ns, rfl, S, W, hg, hl, ends⟩ := h
    match ns, hl with
    | [x, y], _ =>
      replace ends : CallEnds a K H st fs (Diag.step fs (.within x y)) Q E := ends
      refine ⟨_, rfl, g, _, rfl, SqL.of hg, fun ok => ?_, fun bad => ends.no (no_within (by rw [regs2] at bad; exact bad)) (Same.refl H)⟩
      rw [regs2] at ok
      refine ⟨_, rfl, g, _, rfl, SqL.of hg, rfl, _, _, rfl, _, _, rfl, rfl, ?_⟩
      refine rd_regV T rfl rfl S ok.1 (rd_cs T rfl S (by decide +kernel) fun cs C => rd_regV T rfl rfl S ok.2 ⟨cs, _, rfl, C, _, _, rfl, rfl, ?_⟩)
      have e := st_within W ok
      refine ⟨_, rfl, outN (Diag.reg fs x) (Diag.reg fs y), 0, rfl, rfl, _, rfl, ?_⟩
      by_cases hz : outN (Diag.reg fs x) (Diag.reg fs y) = 0
      · rw [decide_eq_true hz]
        rw [hz, least_none (f := 0) (start := 0) rfl] at e
        refine iteT ⟨(by show 1 ≤ sizeLine; decide), fun p hp => ?_⟩
        exact ends.told S e (Same.upd hp) hp upd_same
      · rw [decide_eq_false hz]
        obtain ⟨t, q, eo⟩ := low_form _ (Nat.pos_of_ne_zero hz)
        have el := least_some (f := outN (Diag.reg fs x) (Diag.reg fs y)) (start := 0) (t := t) (q := q) (outN_lt (reg_lt W y)) eo
        rw [el] at e
        change leastN (Diag.reg fs x &&& notN (Diag.reg fs y)) 0 = _ at el
        refine iteF ⟨(by show 1 ≤ sizeLine; decide), fun l hl => ?_⟩
        refine ⟨_, rfl, _, 0, rfl, outN_lt (reg_lt W y), ?_⟩
        rw [el]
        refine ⟨(by show 1 ≤ sizeLine; decide), fun m hm => ?_⟩
        refine ⟨m, _, rfl, upd_same, (by show 1 < 16000000; decide), fun H2 r S2 hr2 er => ?_⟩
        have el2 : H2 l = some (.lst [V.int 0]) := S2 _ _ (by rw [upd_ne (ne_of_none upd_same hm)]; exact upd_same)
        refine ⟨l, r, _, _, rfl, rfl, el2, er, (by show 1 + 2 ≤ sizeLine; decide), fun p hp => ?_⟩
        have S3 : Same H H2 := Same.trans (Same.new (Same.upd hl) hm) S2
        exact ends.told S e (Same.new S3 hp) (Same.free S3 hp) upd_same
end
end Ten
namespace Ten
open PySem PySem.Spec PyProof.Rows L2
/-! The reader of calls. -/
def rdF (l : Addr) (k : Nat) : List (Str × V) := [("numbers", .ref l), ("at", nV k)]
theorem rdF_l (l : Addr) (k : Nat) : (rdF l k).lookup ("numbers" : Str) = some (.ref l) := lk_here
theorem rdF_k (l : Addr) (k : Nat) : (rdF l k).lookup ("at" : Str) = some (nV k) := (lk_past (by decide +kernel)).trans lk_here
theorem rdF_m (l : Addr) (k : Nat) {m : Str} (h : notField m ["numbers", "at"] = true) : (rdF l k).lookup m = none := no_field h
theorem rdF_put (l : Addr) (k j : Nat) : putF "at" (nV j) (rdF l k) = rdF l j := (put_past (by decide +kernel)).trans (congrArg _ put_here)
/-- at rd: a reader of the numbers ns (listed at l), the next one's place k -/
def ReaderAt (a : Ad) (K : PySem.W.Frag) (H : Hp) (rd l : Addr) (ns : List Nat) (k : Nat) : Prop := SqL K H l (nVs ns) ∧ ∃ dx, H rd = some (.ins a.c_CallReader dx (rdF l k))
/-- all stands but what lies at x -/
def But (H H' : Hp) (x : Addr) : Prop := ∀ b o, H b = some o → b ≠ x → H' b = some o
theorem But.upd {H : Hp} {x : Addr} {o : HO} : But H (L2.upd H x o) x := fun b q e nb => by
  rw [upd_ne nb]
  exact e
theorem But.new {H H' : Hp} {x p : Addr} {o : HO} (s : But H H' x) (h : H' p = none) : But H (L2.upd H' p o) x := fun b q e nb => by
  rw [upd_ne (ne_of_none (s b q e nb) h)]
  exact s b q e nb
theorem But.same {H H' H2 : Hp} {x : Addr} (s : But H H' x) (k : Same H' H2) : But H H2 x := fun b q e nb => k _ _ (s b q e nb)
theorem But.of {H H' : Hp} {x : Addr} (s : Same H H') : But H H' x := fun b q e _ => s b q e
theorem But.trans {H H' H2 : Hp} {x : Addr} (s : But H H' x) (k : But H' H2 x) : But H H2 x := fun b q e nb => k _ _ (s b q e nb) nb
theorem But.free {H H' : Hp} {x p : Addr} {o : HO} (s : But H H' x) (hx : H x = some o) (h : H' p = none) (n : p ≠ x) : H p = none := by
  cases e : H p with
  | none => rfl
  | some q =>
    rw [s p q e n] at h
    cases h
theorem nVs_cut (l : List Nat) (k n : Nat) (h : k + n ≤ l.length) : cutV (nVs l) (some ((k : Nat) : Int)) (some (((k + n : Nat)) : Int)) = nVs ((l.drop k).take n) := by
  unfold cutV
  rw [HT.sIx_nat, HT.sIx_nat, nVs_len, Nat.min_eq_left (show k ≤ l.length by omega), Nat.min_eq_left h, Nat.add_sub_cancel_left]
  unfold nVs
  rw [← List.map_drop, ← List.map_take]
section
variable {P : Program} {w : World} {K : PySem.W.Frag} {mg : Str → Option Value} {base : Heap} {a : Ad}
theorem sqL_by {H H' : Hp} {l : Addr} {xs : List V} (h : SqL K H l xs) (s : ∀ o, H l = some o → (o = .lst xs ∨ ∃ ob, o = .frz ob (.lst xs)) → H' l = some o) : SqL K H' l xs := by
  rcases h with (h | ⟨ob, h⟩) | h
  · exact .inl (.inl (s _ h (.inl rfl)))
  · exact .inl (.inr ⟨ob, s _ h (.inr ⟨ob, rfl⟩)⟩)
  · exact .inr h
theorem sqL_same {H H' : Hp} {l : Addr} {xs : List V} (h : SqL K H l xs) (s : Same H H') : SqL K H' l xs := sqL_by h fun o e _ => s _ _ e
theorem sqL_but {H H' : Hp} {l x dx c : Addr} {xs : List V} {fs : List (Str × V)} (h : SqL K H l xs) (hx : H x = some (.ins c dx fs)) (s : But H H' x) : SqL K H' l xs := sqL_by h fun o e k => s _ _ e (ne_of e hx fun z => by
  rcases k with k | ⟨ob, k⟩
  · rw [k] at z
    cases z
  · rw [k] at z
    cases z)
theorem ReaderAt.same {H H' : Hp} {rd l : Addr} {ns : List Nat} {k : Nat} (R : ReaderAt a K H rd l ns k) (s : Same H H') : ReaderAt a K H' rd l ns k := by
  obtain ⟨e, dx, e2⟩ := R
  exact ⟨sqL_same e s, dx, s _ _ e2⟩
/-! ### CallReader.__init__ -/
def spRdI (a : Ad) (K : PySem.W.Frag) : Sp := fun vs H Q _ => ∃ (p dx l : Addr) (ns : List Nat), vs = [.ref p, .ref l] ∧ H p = some (.ins a.c_CallReader dx []) ∧ SqL K H l (nVs ns) ∧ ∀ H' : Hp, ReaderAt a K H' p l ns 0 → But H H' p → Q .non H'
abbrev rdF1 (l : Addr) : List (Str × V) := [("numbers", .ref l)]
theorem scRdI : FnScope ["self", "numbers"] ["self", "numbers"] (defScope s_CallReader_init) := ⟨rfl, rfl, rfl, by decide +kernel, rfl, by decide +kernel, by decide +kernel⟩
theorem ok_rdI (T : Txt K mg a) : FnOk P w K mg base CX0 1 a.f_CallReader_init a.d_CallReader_init ["self", "numbers"] (spRdI a K) := by
  refine T.CallReader_init.ok scRdI (fun vs H Q E h => ?_) (fun cdv A outer s H vs Q E hr h => ⟨_, pss_cons (ps_fld (pv 0) (pv 1) rfl) (pss_one (ps_fld (pv 0) pe_int rfl)), ?_⟩)
  · obtain ⟨p, dx, l, ns, rfl, _⟩ := h
    rfl
  · obtain ⟨p, dx, l, ns, rfl, hp, hl, k⟩ := h
    refine ⟨_, rfl, _, rfl, p, _, dx, _, rfl, hp, T.cl_CallReader, T.no_CallReader_numbers, (by show 0 < 1000; decide), ?_⟩
    refine ⟨_, rfl, p, _, dx, rdF1 l, rfl, upd_same, T.cl_CallReader, T.no_CallReader_at, (by show 1 < 1000; decide), ?_⟩
    refine k _ ⟨sqL_but hl hp fun b o e nb => ?_, dx, ?_⟩ fun b o e nb => ?_
    · rw [upd_ne nb, upd_ne nb]
      exact e
    · rw [upd_same, put_past (by decide +kernel)]
      rfl
    · rw [upd_ne nb, upd_ne nb]
      exact e
/-! ### has_more, taken -/
def spMore (a : Ad) (K : PySem.W.Frag) : Sp := fun vs H Q _ => ∃ (rd l : Addr) (ns : List Nat) (k : Nat), vs = [.ref rd] ∧ ReaderAt a K H rd l ns k ∧ Q (.bl (decide (k < ns.length))) H
theorem scMore : FnScope ["self"] ["self"] (defScope s_CallReader_has_more) := ⟨rfl, rfl, rfl, by decide +kernel, rfl, by decide +kernel, by decide +kernel⟩
theorem ok_more (T : Txt K mg a) : FnOk P w K mg base CX0 1 a.f_CallReader_has_more a.d_CallReader_has_more ["self"] (spMore a K) := by
  refine T.CallReader_has_more.F.ok scMore (fun vs H Q E h => ?_) (fun cdv A outer s H vs Q E hr h => ⟨_, pss_one (ps_ret (pe_cmpR opn_lt (pe_fld (pv 0) rfl) (pe_callB call_len_seq (by rfl) T.b_len PySem.boot_len (pa_cons (pe_fld (pv 0) rfl) pa_nil)) (nomark _))), ?_⟩)
  · obtain ⟨rd, l, ns, k, rfl, _⟩ := h
    rfl
  · obtain ⟨rd, l, ns, k, rfl, ⟨hl, dx, e2⟩, q⟩ := h
    refine ⟨_, rfl, rd, _, dx, _, _, rfl, e2, T.cl_CallReader, T.no_CallReader_at, rdF_k l k, ?_⟩
    refine ⟨_, rfl, rd, _, dx, _, _, rfl, e2, T.cl_CallReader, T.no_CallReader_numbers, rdF_l l k, l, _, rfl, .inl hl, k, ns.length, rfl, ?_, ?_⟩
    · rw [nVs_len]
    · exact q
def spTaken (a : Ad) (K : PySem.W.Frag) : Sp := fun vs H Q _ => ∃ (rd l : Addr) (ns : List Nat) (k n : Nat), vs = [.ref rd, nV n] ∧ ReaderAt a K H rd l ns k ∧ k + n ≤ ns.length ∧
  ∀ H' p, ReaderAt a K H' rd l ns (k + n) → But H H' rd → H p = none → H' p = some (.lst (nVs ((ns.drop k).take n))) → p ≠ rd → Q (.ref p) H'
theorem scTaken : FnScope ["self", "length", "start"] ["self", "length"] (defScope s_CallReader_taken) := ⟨rfl, rfl, rfl, by decide +kernel, rfl, by decide +kernel, by decide +kernel⟩
theorem ok_taken (T : Txt K mg a) : FnOk P w K mg base CX0 1 a.f_CallReader_taken a.d_CallReader_taken ["self", "length"] (spTaken a K) := by
  refine T.CallReader_taken.F.ok scTaken (fun vs H Q E h => ?_) (fun cdv A outer s H vs Q E hr h => ⟨_, pss_cons (ps_set (i := 2) scTaken.nd rfl (.inl rfl) (pe_fld (pv 0) rfl))
    (pss_cons (ps_fld (pv 0) (pe_op op_addN (pv 2) (pv 1)) rfl)
    (pss_one (ps_ret (pe_slice sl_list (pe_fld (pv 0) rfl) (po_some (pv 2)) (po_some (pe_fld (pv 0) rfl)))))), ?_⟩)
  · obtain ⟨rd, l, ns, k, n, rfl, _⟩ := h
    rfl
  · obtain ⟨rd, l, ns, k, n, rfl, R, hn, q⟩ := h
    obtain ⟨hl, dx, e2⟩ := R
    refine ⟨_, rfl, rd, _, dx, _, _, rfl, e2, T.cl_CallReader, T.no_CallReader_at, rdF_k l k, ?_⟩
    refine ⟨_, rfl, _, rfl, _, _, rfl, rfl, _, rfl, rd, _, dx, _, rfl, e2, T.cl_CallReader, T.no_CallReader_at, (by show 2 < 1000; decide), ?_⟩
    have ep : putF "at" (V.int (((k : Nat) : Int) + ((n : Nat) : Int))) (rdF l k) = rdF l (k + n) := rdF_put l k (k + n)
    have es : ∀ {H2 : Hp}, upd H2 rd (.ins a.c_CallReader dx (putF "at" (V.int (((k : Nat) : Int) + ((n : Nat) : Int))) (rdF l k))) rd = some (.ins a.c_CallReader dx (rdF l (k + n))) := upd_same.trans (by rw [ep])
    have hl2 : SqL K (upd H rd (.ins a.c_CallReader dx (putF "at" (V.int (((k : Nat) : Int) + ((n : Nat) : Int))) (rdF l k)))) l (nVs ns) := sqL_but hl e2 But.upd
    refine ⟨_, rfl, rd, _, dx, _, _, rfl, es, T.cl_CallReader, T.no_CallReader_numbers, rdF_l l _, _, rfl, _, rfl, _, rfl, rd, _, dx, _, _, rfl, es, T.cl_CallReader, T.no_CallReader_at, rdF_k l _, _, rfl, ?_⟩
    refine ⟨l, _, rfl, hl2, fun p hp => ?_⟩
    have npr : p ≠ rd := fun z => by
      rw [z, upd_same] at hp
      cases hp
    rw [nVs_cut ns k n hn]
    refine q _ p ⟨?_, dx, ?_⟩ (But.new But.upd hp) ?_ upd_same npr
    · exact sqL_same hl2 (Same.upd hp)
    · rw [upd_ne (Ne.symm npr)]
      exact es
    · rw [upd_ne npr] at hp
      exact hp
end
end Ten
namespace Ten
open PySem PySem.Spec PyProof.Rows L2
/-! The reader's next call. -/
def plL : List Nat := [2, 2, 2, 4, 4, 4, 3, 3, 4, 2, 1, 2, 1, 1, 1, 2]
def plN (c : Nat) : Nat := plL.getD c 0
theorem pl_at {c : Nat} (h : c < 16) : atI (([2, 2, 2, 4, 4, 4, 3, 3, 4, 2, 1, 2, 1, 1, 1, 2] : List Int).map V.int) ((c : Nat) : Int) = some (nV (plN c)) := by
  refine at_nat ?_
  have e : (([2, 2, 2, 4, 4, 4, 3, 3, 4, 2, 1, 2, 1, 1, 1, 2] : List Int).map V.int) = nVs plL := rfl
  rw [e]
  refine nVs_get ?_
  unfold plN
  rw [List.getD_eq_getElem?_getD, List.getElem?_eq_getElem (h : c < plL.length)]
  rfl
section
variable {P : Program} {w : World} {K : PySem.W.Frag} {mg : Str → Option Value} {base : Heap} {a : Ad}
/-- behind taken_call: the number c and the list given -/
def GivenAt (a : Ad) (K : PySem.W.Frag) (H H' : Hp) (rd l : Addr) (ns : List Nat) (k : Nat) (t g : Addr) (c : Nat) (xs : List V) : Prop :=
  ReaderAt a K H' rd l ns k ∧ But H H' rd ∧ H' t = some (.tup [nV c, .ref g]) ∧ H g = none ∧ H' g = some (.lst xs) ∧ g ≠ rd
def spTC (a : Ad) (K : PySem.W.Frag) : Sp := fun vs H Q _ => ∃ (rd l : Addr) (ns : List Nat) (k c : Nat) (args tail : List Nat), vs = [.ref rd] ∧ ReaderAt a K H rd l ns k ∧ k < ns.length ∧ ns.drop k = c :: (args ++ tail) ∧ c < 16 ∧ args.length = plN c ∧
  (c ≠ 13 → ∀ H' t g, GivenAt a K H H' rd l ns (k + 1 + args.length) t g c (nVs args) → Q (.ref t) H') ∧
  (c = 13 → ∃ (row rest : List Nat), tail = row.length :: (row ++ rest) ∧ ∀ H' t g q, GivenAt a K H H' rd l ns (k + 1 + args.length + 1 + row.length) t g c (nVs args ++ [.ref q]) → H' q = some (.lst (nVs row)) → Q (.ref t) H')
theorem scTC : FnScope ["self", "number", "given", "length"] ["self"] (defScope s_CallReader_taken_call) := ⟨rfl, rfl, rfl, by decide +kernel, rfl, by decide +kernel, by decide +kernel⟩
theorem drop_more {ns : List Nat} {k : Nat} {u v : List Nat} (h : ns.drop k = u ++ v) : ns.drop (k + u.length) = v := by
  rw [← List.drop_drop, h, List.drop_left]
theorem drop_len {ns : List Nat} {k : Nat} {u v : List Nat} (hk : k ≤ ns.length) (h : ns.drop k = u ++ v) : k + u.length ≤ ns.length := by
  have q := congrArg List.length h
  rw [List.length_drop, List.length_append] at q
  omega
theorem drop_take {ns : List Nat} {k n : Nat} {u v : List Nat} (h : ns.drop k = u ++ v) (e : u.length = n) : (ns.drop k).take n = u := by
  rw [h, ← e, List.take_left]
theorem ok_tc (T : Txt K mg a) : FnOk P w K mg base CX0 2 a.f_CallReader_taken_call a.d_CallReader_taken_call ["self"] (spTC a K) := by
  refine T.CallReader_taken_call.F.ok scTC (fun vs H Q E h => ?_) (fun cdv A outer s H vs Q E hr h => ⟨_, pss_cons (ps_set (i := 1) scTC.nd rfl (.inl rfl) (pe_ix ix_list (pe_meth (pv 0) T.cl_CallReader T.CallReader_taken.M (ok_taken T) hr T.CallReader_taken.b .nil pass0 (pa_cons pe_int pa_nil)) pe_int (fun _ _ => rfl)))
    (pss_cons (ps_set (i := 2) scTC.nd rfl (.inl rfl) (pe_meth (pv 0) T.cl_CallReader T.CallReader_taken.M (ok_taken T) hr T.CallReader_taken.b .nil pass0 (pa_cons (pe_ix ix_tup (pe_glob (v := .ref a.t_plain) rfl T.gP rfl) (pv 1) (fun _ _ => rfl)) pa_nil)))
    (pss_cons (ps_if (pt_cmpR opn_eq (pv 1) (pe_gi rfl T.i_DIAGRAM) (nomark _))
      (pss_cons (ps_set (i := 3) scTC.nd rfl (.inl rfl) (pe_ix ix_list (pe_meth (pv 0) T.cl_CallReader T.CallReader_taken.M (ok_taken T) hr T.CallReader_taken.b .nil pass0 (pa_cons pe_int pa_nil)) pe_int (fun _ _ => rfl)))
      (pss_one (ps_expr (pe_bm PySem.F.plainAttrs_list PySem.F.slot_list_append PySem.F.type_list_append mt_append (pv 2) (pa_cons (pe_meth (pv 0) T.cl_CallReader T.CallReader_taken.M (ok_taken T) hr T.CallReader_taken.b .nil pass0 (pa_cons (pv 3) pa_nil)) pa_nil))))) pss_nil)
    (pss_one (ps_ret (pe_tup (pa_cons (pv 1) (pa_cons (pv 2) pa_nil))))))), ?_⟩)
  · obtain ⟨rd, l, ns, k, c, args, tail, rfl, _⟩ := h
    rfl
  · obtain ⟨rd, l, ns, k, c, args, tail, rfl, R, hk, ed, hc, ha, q1, q2⟩ := h
    have e0 : ns.drop k = [c] ++ (args ++ tail) := ed
    have l0 : k + 1 ≤ ns.length := drop_len (Nat.le_of_lt hk) e0
    have e1 : ns.drop (k + 1) = args ++ tail := drop_more e0
    have l1 := drop_len l0 e1
    obtain ⟨_, dx, er⟩ := id R
    refine ⟨_, rfl, rd, dx, _, rfl, er, rdF_m l k (by decide +kernel), rd, l, ns, k, 1, rfl, R, l0, fun H1 p1 R1 B1 n1 x1 m1 => ?_⟩
    rw [drop_take (n := 1) e0 rfl] at x1
    refine ⟨p1, _, 0, nV c, rfl, rfl, SqL.of x1, at_nat rfl, ?_⟩
    obtain ⟨_, dx1, er1⟩ := id R1
    refine ⟨_, rfl, rd, dx1, _, rfl, er1, rdF_m l _ (by decide +kernel), _, rfl, a.t_plain, _, _, _, rfl, rfl, T.sP _, pl_at hc, ?_⟩
    refine ⟨rd, l, ns, k + 1, plN c, rfl, R1, (by rw [← ha]; exact l1), fun H2 g R2 B2 n2 x2 m2 => ?_⟩
    rw [drop_take e1 ha] at x2
    have R2' : ReaderAt a K H2 rd l ns (k + 1 + args.length) := by rw [ha]; exact R2
    refine ⟨_, rfl, c, 13, rfl, rfl, _, rfl, ?_⟩
    have B : But H H2 rd := B1.trans B2
    have ng : H g = none := B1.free er n2 m2
    by_cases h13 : c = 13
    · rw [decide_eq_true h13]
      obtain ⟨row, rest, et, q⟩ := q2 h13
      have e2 := drop_more e1
      rw [et] at e2
      have e2' : ns.drop (k + 1 + args.length) = [row.length] ++ (row ++ rest) := e2
      have l2 : k + 1 + args.length + 1 ≤ ns.length := drop_len l1 e2'
      have e3 : ns.drop (k + 1 + args.length + 1) = row ++ rest := drop_more e2'
      have l3 := drop_len l2 e3
      obtain ⟨_, dx2, er2⟩ := id R2'
      refine iteT ⟨_, rfl, rd, dx2, _, rfl, er2, rdF_m l _ (by decide +kernel), rd, l, ns, _, 1, rfl, R2', l2, fun H3 p3 R3 B3 n3 x3 m3 => ?_⟩
      rw [drop_take (n := 1) e2' rfl] at x3
      refine ⟨p3, _, 0, nV row.length, rfl, rfl, SqL.of x3, at_nat rfl, ?_⟩
      have x2b : H3 g = some (.lst (nVs args)) := B3 _ _ x2 m2
      obtain ⟨_, dx3, er3⟩ := id R3
      refine ⟨_, rfl, .inl ⟨rfl, _, SqL.of x2b⟩, _, rfl, rd, dx3, _, rfl, er3, rdF_m l _ (by decide +kernel), _, rfl, rd, l, ns, _, row.length, rfl, R3, l3, fun H4 p4 R4 B4 n4 x4 m4 => ?_⟩
      rw [drop_take e3 rfl] at x4
      have x2c : H4 g = some (.lst (nVs args)) := B4 _ _ x2b m2
      have n4g : p4 ≠ g := fun z => by
        rw [z, x2b] at n4
        cases n4
      refine ⟨g, _, _, rfl, rfl, x2c, ?_, ?_⟩
      · rw [nVs_len, ha, sizeLine_eq]
        have : plN c ≤ 4 := by
          subst h13
          decide
        omega
      refine ⟨_, rfl, _, rfl, (by show 2 ≤ sizeLine; decide), fun t ht => ?_⟩
      have ntg : t ≠ g := fun z => by
        rw [z, upd_same] at ht
        cases ht
      have ht4 := ht
      rw [upd_ne ntg] at ht4
      have hB : But H (upd (upd H4 g (.lst (nVs args ++ [.ref p4]))) t (.tup [nV c, .ref g])) rd := by
        intro b o e nb
        have z := B4 _ _ (B3 _ _ (B _ _ e nb) nb) nb
        have nbg : b ≠ g := fun z => by
          rw [z, ng] at e
          cases e
        rw [upd_ne (ne_of_none z ht4), upd_ne nbg]
        exact z
      refine q _ t g p4 ⟨?_, hB, upd_same, ng, ?_, m2⟩ ?_
      · obtain ⟨z1, dx4, z2⟩ := R4
        refine ⟨sqL_but R.1 er hB, dx4, ?_⟩
        rw [upd_ne (ne_of_none z2 ht4), upd_ne (Ne.symm m2)]
        exact z2
      · rw [upd_ne (Ne.symm ntg), upd_same]
      · rw [upd_ne (ne_of_none x4 ht4), upd_ne n4g]
        exact x4
    · rw [decide_eq_false h13]
      refine iteF ⟨_, rfl, _, rfl, (by show 2 ≤ sizeLine; decide), fun t ht => ?_⟩
      exact q1 h13 _ t g ⟨R2'.same (Same.upd ht), B.new ht, upd_same, ng, Same.upd ht _ _ x2, m2⟩
end
end Ten
namespace Ten
open PySem PySem.Spec PyProof.Rows L2
/-! is_order; a call of what a tuple of defs holds. -/
theorem perm_of_sub : ∀ (l o : List Nat), l.Nodup → (∀ x ∈ l, x ∈ o) → o.length ≤ l.length → o.Perm l
  | [], o, _, _, h => by
    have e : o = [] := List.eq_nil_of_length_eq_zero (by simpa using h)
    rw [e]
  | x :: t, o, hn, hs, h => by
    have hx : x ∈ o := hs x List.mem_cons_self
    have p := List.perm_cons_erase hx
    have hn' := List.nodup_cons.mp hn
    refine p.trans (List.Perm.cons x (perm_of_sub t (o.erase x) hn'.2 (fun y hy => ?_) ?_))
    · have ne : y ≠ x := fun z => hn'.1 (z ▸ hy)
      exact (List.mem_erase_of_ne ne).mpr (hs y (List.mem_cons_of_mem _ hy))
    · have q := p.length_eq
      rw [List.length_cons] at q h
      omega
theorem order_perm {o : List Nat} : Diag.isOrder o = true ↔ o.Perm (List.range 10) := by
  unfold Diag.isOrder
  rw [Bool.and_eq_true, List.all_eq_true]
  constructor
  · intro ⟨h1, h2⟩
    refine perm_of_sub _ _ List.nodup_range (fun x hx => by simpa using h2 x hx) ?_
    have e : o.length = 10 := eq_of_beq h1
    rw [e, List.length_range]
    exact Nat.le_refl _
  · intro h
    refine ⟨?_, fun x hx => by simpa using h.mem_iff.mpr hx⟩
    rw [h.length_eq, List.length_range]
    rfl
theorem ieqv : ∀ ns ms : List Int, PyData.eqvAll (ns.map PyData.int) (ms.map PyData.int) = decide (ns = ms)
  | [], [] => by simp [PyData.eqvAll]
  | [], _ :: _ => by simp [PyData.eqvAll]
  | _ :: _, [] => by simp [PyData.eqvAll]
  | x :: r, y :: t => by
    simp only [List.map_cons, PyData.eqvAll, PyData.eqv, ieqv r t]
    by_cases h : x = y <;> by_cases h' : r = t <;> simp [h, h']
theorem iLay : ∀ ns : List Int, PyData.canLayAll0 (ns.map PyData.int) = true
  | [] => rfl
  | _ :: r => by simp [PyData.canLayAll0, PyData.canLay0, iLay r]
theorem iDepth : ∀ ns : List Int, PyData.depthAll (ns.map PyData.int) = 0
  | [] => rfl
  | _ :: r => by simp [PyData.depthAll, PyData.depth, iDepth r]
theorem iShaped (ns : List Int) : SeqAt.shaped (.list (ns.map PyData.int)) = true := by
  simp [SeqAt.shaped, PyData.canLay0, PyData.depth, iLay, iDepth]
theorem dpInts (K : PySem.W.Frag) (H : Hp) : ∀ ns : List Int, DpAll K H (ns.map V.int) (ns.map PyData.int)
  | [] => .nil
  | i :: r => .cons (.int i) (dpInts K H r)
theorem rg10 : rgV 0 10 = (((List.range 10).map fun n => ((n : Nat) : Int)).map V.int) := by
  decide +kernel
theorem order_sorted {o : List Nat} {ms : List Int} (h1 : ms.Perm (o.map fun n => ((n : Nat) : Int))) (h2 : ms.Pairwise (· ≤ ·)) :
    decide (ms = (List.range 10).map fun n => ((n : Nat) : Int)) = Diag.isOrder o := by
  rw [Bool.eq_iff_iff, decide_eq_true_iff, order_perm]
  constructor
  · intro e
    subst e
    have q : (((List.range 10).map fun n => ((n : Nat) : Int)).map Int.toNat).Perm ((o.map fun n => ((n : Nat) : Int)).map Int.toNat) := h1.map _
    rw [List.map_map, List.map_map] at q
    have e1 : ∀ l : List Nat, l.map (Int.toNat ∘ fun n => ((n : Nat) : Int)) = l := fun l => by
      conv => rhs; rw [← List.map_id l]
      exact List.map_congr_left fun x _ => Int.toNat_natCast x
    rw [e1, e1] at q
    exact q.symm
  · intro p
    refine List.Perm.eq_of_pairwise (le := (· ≤ ·)) (fun x y _ _ a b => Int.le_antisymm a b) h2 (by decide) (h1.trans (p.map _))
section
variable {P : Program} {w : World} {K : PySem.W.Frag} {mg : Str → Option Value} {base : Heap} {a : Ad}
theorem boot_sorted : bootBuiltins "sorted" = some (.builtin "sorted") := by decide +kernel
def spOrd (K : PySem.W.Frag) : Sp := fun vs H Q _ => ∃ (l : Addr) (o : List Nat), vs = [.ref l] ∧ SqL K H l (nVs o) ∧ ∀ H', Same H H' → Q (.bl (Diag.isOrder o)) H'
theorem scOrd : FnScope ["numbers"] ["numbers"] (defScope s_is_order) := ⟨rfl, rfl, rfl, by decide +kernel, rfl, by decide +kernel, by decide +kernel⟩
theorem ok_ord (T : Txt K mg a) : FnOk P w K mg base CX0 1 a.f_is_order a.d_is_order ["numbers"] (spOrd K) := by
  refine T.is_order.F.ok scOrd (fun vs H Q E h => ?_) (fun cdv A outer s H vs Q E hr h => ⟨_, pss_one (ps_ret (pe_cmpR (op_eqD hr.units)
    (pe_callB cr_sortedI (by rfl) T.b_sorted boot_sorted (pa_cons (pv 0) pa_nil)) (pe_listRg rfl rfl T.b_list (prg_1 rfl T.b_range (pe_gi rfl T.i_VARIABLES))) (nomark _))), ?_⟩)
  · obtain ⟨l, o, rfl, _⟩ := h
    rfl
  · obtain ⟨l, o, rfl, hl, q⟩ := h
    rw [nVs_ints] at hl
    refine ⟨_, rfl, l, _, rfl, hl, fun ms p hp hs n1 => ?_⟩
    refine ⟨10, rfl, RgOk.of_le (by decide) (by decide) (by decide) (by decide), fun r n2 => ?_⟩
    have S1 : Same H _ := Same.upd (o := .lst (ms.map V.int)) n1
    refine ⟨_, _, .lst (SqL.of (Same.upd n2 _ _ upd_same)) (dpInts _ _ ms), .lst (SqL.of upd_same) (rg10 ▸ dpInts _ _ ((List.range 10).map fun n => ((n : Nat) : Int))), iShaped _, iShaped _, ?_⟩
    have e : PyData.eqv (.list (ms.map PyData.int)) (.list (((List.range 10).map fun n => ((n : Nat) : Int)).map PyData.int)) = Diag.isOrder o := by
      rw [PyData.eqv, ieqv]
      exact order_sorted hp hs
    rw [e]
    exact q _ (Same.new S1 n2)
end

/-! ### a call of a def that a value names -/
structure HeldX (P : Program) (w : World) (K : PySem.W.Frag) (mg : Str → Option Value) (base : Heap) (k : Nat) (f : Addr) (sp : Sp) : Prop where
  ex : ∃ (fd : FuncData) (ps : List Str) (j : Nat), j ≤ k ∧ FnOk P w K mg base (L2.CX P w) j f fd ps sp ∧ PySem.W.keepIn K (.ref f) = true ∧ Binds K fd ps []
def tCallT (S : Addr → Sp → Prop) (E : XK) (tf : TE) (t : TA) : TE := fun σ H Q => tf σ H fun y H1 => ∃ f sp, y = .ref f ∧ S f sp ∧ t σ H1 fun vs H2 => sp (vs ++ []) H2 Q E
theorem pe_callT {X : Cx} {k : Nat} {S : Addr → Sp → Prop} {E : XK} {fe e : Expr} {es : List Expr} {tf : TE} {t : TA} {pos : Pos} (hf : PE X fe tf) (A : ∀ f sp, S f sp → HeldX X.prog X.w X.K X.mg X.base k f sp) (hr : Room k X.A) (hx : Passes (L2.CX X.prog X.w) X E) (ha : PA X (e :: es) t)
    (ht : eval (.Call fe (e :: es) [] pos) X.env = (do callWith pos (← eval fe X.env) [] (backTo pos (starEach (e :: es) X.env)) (backToKw pos (keywordEach [] X.env))) := by rfl)
    (he : starEach (e :: es) X.env = (false, eval e X.env) :: starEach es X.env := by rfl) (hpl : (backTo pos (starEach es X.env)).any (·.1) = false := by rfl) : PE X (.Call fe (e :: es) [] pos) (tCallT S E tf t) := by
  refine ⟨fun pins s σ H Q I h => ?_⟩
  refine Call_ (thn (hf.run pins s σ H _ I h) fun u s1 ⟨y, H1, I1, ry, f, sp, ey, hS, q⟩ => ?_) ht
  subst ey
  obtain rfl : u = Value.ref f := ry
  obtain ⟨fd, ps, j, hj, F, hk, hb⟩ := (A f sp hS).ex
  refine PySem.W.callWith_K (h₀ := X.base) I1.ok.mod.kin hk (thn (ha.run pos pins s1 σ H1 _ I1 q) fun us s2 ⟨vs, H2, I2, r, q2⟩ => ⟨I2.kIn, ?_⟩) he hpl
  exact run_fn F (hr.mono hj) hb .nil hx I2 r q2
end Ten
namespace Ten
/-! What a part hangs on; the nodes that place_of meets. -/
theorem hang_no {f v : Nat} (hf : f < Full) (hv : v < 10) : hang f v = false ↔ ∀ m, m < 1024 → f.testBit (Diag.setVar m v false) = f.testBit (Diag.setVar m v true) := by
  constructor
  · intro h m hm
    refine Classical.byContradiction fun z => ?_
    have q := (hang_iff hf hv).mpr ⟨m, hm, z⟩
    rw [h] at q
    cases q
  · intro h
    cases e : hang f v with
    | false => rfl
    | true =>
      obtain ⟨m, hm, z⟩ := (hang_iff hf hv).mp e
      exact absurd (h m hm) z
theorem hang_set {f v m : Nat} (hf : f < Full) (hv : v < 10) (h : hang f v = false) (z : Bool) (hm : m < 1024) : f.testBit (Diag.setVar m v z) = f.testBit m := by
  have q := (hang_no hf hv).mp h m hm
  by_cases e : m.testBit v = true
  · have s1 := setVar_same e
    cases z with
    | true => rw [s1]
    | false => rw [q, s1]
  · have e' : m.testBit v = false := by simpa using e
    have s1 := setVar_same e'
    cases z with
    | true => rw [← q, s1]
    | false => rw [s1]
theorem fix_same {f v : Nat} (hf : f < Full) (hv : v < 10) (h : hang f v = false) (z : Bool) : fixN f v z = f :=
  f_ext (fixN_lt z hf hv) hf fun m hm => by rw [fixN_bit z hf hv hm, hang_set hf hv h z hm]
theorem hang_self {f v : Nat} (hf : f < Full) (hv : v < 10) (z : Bool) : hang (fixN f v z) v = false :=
  (hang_no (fixN_lt z hf hv) hv).mpr fun m hm => by
    rw [fixN_bit z hf hv (setVar_lt _ hm hv), fixN_bit z hf hv (setVar_lt _ hm hv), setVar_twice, setVar_twice]
theorem hang_fix {f u v : Nat} (hf : f < Full) (hu : u < 10) (hv : v < 10) (z : Bool) (h : hang f u = false) : hang (fixN f v z) u = false := by
  by_cases e : u = v
  · subst e
    exact hang_self hf hu z
  · refine (hang_no (fixN_lt z hf hv) hu).mpr fun m hm => ?_
    rw [fixN_bit z hf hv (setVar_lt _ hm hu), fixN_bit z hf hv (setVar_lt _ hm hu), setVar_comm m false z e, setVar_comm m true z e]
    exact (hang_no hf hu).mp h _ (setVar_lt _ hm hv)
theorem fix_comm {f u v : Nat} (hf : f < Full) (hu : u < 10) (hv : v < 10) (a b : Bool) (e : u ≠ v) : fixN (fixN f u a) v b = fixN (fixN f v b) u a :=
  f_ext (fixN_lt _ (fixN_lt _ hf hu) hv) (fixN_lt _ (fixN_lt _ hf hv) hu) fun m hm => by
    rw [fixN_bit b (fixN_lt _ hf hu) hv hm, fixN_bit a hf hu (setVar_lt _ hm hv), fixN_bit a (fixN_lt _ hf hv) hu hm, fixN_bit b hf hv (setVar_lt _ hm hu), setVar_comm m b a (Ne.symm e)]
/-- the parts of a case of the variables from v on put to no -/
def clr (m : Nat) : Nat → Nat
  | 0 => m
  | k + 1 => Diag.setVar (clr m k) k false
theorem clr_lt {m : Nat} (hm : m < 1024) : ∀ k, k ≤ 10 → clr m k < 1024
  | 0, _ => hm
  | k + 1, h => setVar_lt _ (clr_lt hm k (by omega)) (by omega)
theorem clr_bit (m : Nat) : ∀ (k u : Nat), (clr m k).testBit u = if u < k then false else m.testBit u
  | 0, u => by rw [if_neg (by omega)]; rfl
  | k + 1, u => by
    show (Diag.setVar (clr m k) k false).testBit u = _
    rw [setVar_bit, clr_bit m k u]
    by_cases h : u = k
    · rw [if_pos h, if_pos (by omega)]
    · rw [if_neg h]
      by_cases h2 : u < k
      · rw [if_pos h2, if_pos (by omega)]
      · rw [if_neg h2, if_neg (by omega)]
theorem clr_zero {m : Nat} (hm : m < 1024) : clr m 10 = 0 := by
  refine Nat.eq_of_testBit_eq fun u => ?_
  rw [clr_bit, Nat.zero_testBit]
  by_cases h : u < 10
  · rw [if_pos h]
  · rw [if_neg h]
    exact Nat.testBit_lt_two_pow (Nat.lt_of_lt_of_le hm (Nat.pow_le_pow_right (n := 2) (i := 10) (by decide) (by omega)))
theorem const_of_none {f : Nat} (hf : f < Full) (h : ∀ v, v < 10 → hang f v = false) : f = 0 ∨ f = EV := by
  have key : ∀ m, m < 1024 → f.testBit m = f.testBit 0 := fun m hm => by
    have q : ∀ k, k ≤ 10 → f.testBit (clr m k) = f.testBit m := fun k => by
      induction k with
      | zero => exact fun _ => rfl
      | succ k ih =>
        intro hk
        show f.testBit (Diag.setVar (clr m k) k false) = _
        rw [hang_set hf (by omega) (h k (by omega)) false (clr_lt hm k (by omega)), ih (by omega)]
    rw [← clr_zero hm, q 10 (Nat.le_refl _)]
  cases e : f.testBit 0 with
  | false =>
    refine .inl (f_ext hf (Nat.two_pow_pos _) fun m hm => ?_)
    rw [key m hm, e, Nat.zero_testBit]
  | true =>
    refine .inr (f_ext hf EV_lt fun m hm => ?_)
    rw [key m hm, e, EV_bit, decide_eq_true hm]
theorem hang_zero {v : Nat} (hv : v < 10) : hang 0 v = false := (hang_no (Nat.two_pow_pos _) hv).mpr fun m _ => by rw [Nat.zero_testBit, Nat.zero_testBit]
theorem hang_EV {v : Nat} (hv : v < 10) : hang EV v = false := (hang_no EV_lt hv).mpr fun m hm => by
  rw [EV_bit, EV_bit, decide_eq_true (setVar_lt _ hm hv), decide_eq_true (setVar_lt _ hm hv)]
/-- the first variable of the order that it hangs on -/
def topV (o : List Nat) (f : Nat) : Nat := (o.find? (hang f)).getD 0
/-- the parts that have nodes -/
def meetP (o : List Nat) : Nat → List Nat → Nat → List Nat
  | 0, had, _ => had
  | n + 1, had, f => if f = 0 ∨ f = EV ∨ f ∈ had then had else meetP o n (meetP o n (had ++ [f]) (fixN f (topV o f) false)) (fixN f (topV o f) true)
theorem meetP_pre (o : List Nat) : ∀ (n : Nat) (had : List Nat) (f : Nat), had <+: meetP o n had f
  | 0, had, _ => List.prefix_refl _
  | n + 1, had, f => by
    unfold meetP
    split
    · exact List.prefix_refl _
    · exact ((List.prefix_append had [f]).trans (meetP_pre o n _ _)).trans (meetP_pre o n _ _)
theorem meetP_len (o : List Nat) : ∀ (n : Nat) (had : List Nat) (f : Nat), (meetP o n had f).length + 1 ≤ had.length + 2 ^ n
  | 0, had, _ => Nat.le_refl _
  | n + 1, had, f => by
    unfold meetP
    have h2 : 2 ^ (n + 1) = 2 ^ n + 2 ^ n := by rw [Nat.pow_succ, Nat.mul_two]
    have h1 := Nat.two_pow_pos n
    split
    · omega
    · have q1 := meetP_len o n (had ++ [f]) (fixN f (topV o f) false)
      have q2 := meetP_len o n (meetP o n (had ++ [f]) (fixN f (topV o f) false)) (fixN f (topV o f) true)
      rw [List.length_append, List.length_singleton] at q1
      omega
theorem meetP_nodup (o : List Nat) : ∀ (n : Nat) (had : List Nat) (f : Nat), had.Nodup → (meetP o n had f).Nodup
  | 0, had, _, h => h
  | n + 1, had, f, h => by
    unfold meetP
    split
    · exact h
    · rename_i c
      refine meetP_nodup o n _ _ (meetP_nodup o n _ _ (List.nodup_append.mpr ⟨h, by simp, fun x hx y hy e => ?_⟩))
      rw [List.mem_singleton] at hy
      exact c (.inr (.inr (hy ▸ e ▸ hx)))
/-- where one goes on for a part -/
def RefIs (res : List Nat) (f x : Nat) : Prop := (f = 0 ∧ x = 0) ∨ (f ≠ 0 ∧ f = EV ∧ x = 1) ∨ (f ≠ 0 ∧ f ≠ EV ∧ ∃ i, res[i]? = some f ∧ x = 2 + i)
theorem pre_at {l r : List Nat} (p : l <+: r) {i f : Nat} (h : l[i]? = some f) : r[i]? = some f := by
  obtain ⟨t, rfl⟩ := p
  rw [List.getElem?_append_left (List.getElem?_eq_some_iff.mp h).1]
  exact h
theorem RefIs.pre {res res' : List Nat} {f x : Nat} (h : RefIs res f x) (p : res <+: res') : RefIs res' f x := by
  rcases h with h | h | ⟨h1, h2, i, h3, h4⟩
  · exact .inl h
  · exact .inr (.inl h)
  · exact .inr (.inr ⟨h1, h2, i, pre_at p h3, h4⟩)
theorem EV_ne : EV ≠ 0 := fun z => by
  have q := EV_bit 0
  rw [z, Nat.zero_testBit] at q
  cases q
theorem RefIs.eq {res : List Nat} (hn : res.Nodup) {f x : Nat} (h : RefIs res f x) : x = if f = 0 then 0 else if f = EV then 1 else 2 + res.idxOf f := by
  rcases h with ⟨h, e⟩ | ⟨h, h2, e⟩ | ⟨h1, h2, i, h3, e⟩
  · rw [if_pos h, e]
  · rw [if_neg h, if_pos h2, e]
  · rw [if_neg h1, if_neg h2, e]
    obtain ⟨hi, e3⟩ := List.getElem?_eq_some_iff.mp h3
    rw [← e3, List.Nodup.idxOf_getElem hn i hi]
end Ten
namespace Ten
open PySem PySem.Spec PyProof.Rows L2
/-! Diagram.place_of. -/
/-- the dict of the parts' places -/
def dKo (n : Nat) : List Nat → List (Key × V)
  | [] => []
  | p :: r => (Sum.inl ((p : Nat) : Int), nV (2 + n)) :: dKo (n + 1) r
theorem dKo_none {f : Nat} : ∀ (n : Nat) (l : List Nat), f ∉ l → valV (dKo n l) (Sum.inl ((f : Nat) : Int)) = none
  | _, [], _ => rfl
  | n, p :: r, h => by
    have h1 : ¬ p = f := fun z => h (by rw [z]; exact List.mem_cons_self)
    refine (valV_neg (p := (Sum.inl ((p : Nat) : Int), nV (2 + n))) fun z => ?_).trans (dKo_none (n + 1) r fun z => h (List.mem_cons_of_mem _ z))
    injection z with z
    exact h1 (Int.ofNat.inj z)
theorem dKo_at {f : Nat} : ∀ (n : Nat) (l : List Nat) (i : Nat), l.Nodup → l[i]? = some f → valV (dKo n l) (Sum.inl ((f : Nat) : Int)) = some (nV (2 + (n + i)))
  | _, [], _, _, h => by cases h
  | n, p :: r, 0, _, h => by
    rw [List.getElem?_cons_zero] at h
    cases h
    exact valV_pos rfl
  | n, p :: r, i + 1, hn, h => by
    rw [List.getElem?_cons_succ] at h
    have hn' := List.nodup_cons.mp hn
    have h1 : ¬ p = f := fun z => hn'.1 (by rw [z]; exact List.mem_of_getElem? h)
    refine (valV_neg (p := (Sum.inl ((p : Nat) : Int), nV (2 + n))) fun z => ?_).trans ?_
    · injection z with z
      exact h1 (Int.ofNat.inj z)
    · rw [dKo_at (n + 1) r i hn'.2 h, show n + 1 + i = n + (i + 1) by omega]
theorem dKo_snoc {f : Nat} : ∀ (n : Nat) (l : List Nat), dKo n (l ++ [f]) = dKo n l ++ [(Sum.inl ((f : Nat) : Int), nV (2 + (n + l.length)))]
  | n, [] => rfl
  | n, p :: r => by
    show _ :: dKo (n + 1) (r ++ [f]) = _ :: (dKo (n + 1) r ++ _)
    rw [dKo_snoc (n + 1) r, List.length_cons, show n + 1 + r.length = n + (r.length + 1) by omega]
theorem dKo_len : ∀ (n : Nat) (l : List Nat), (dKo n l).length = l.length
  | _, [] => rfl
  | n, p :: r => by
    show (dKo (n + 1) r).length + 1 = _
    rw [dKo_len, List.length_cons]
def dgF (cs ol nl dl : Addr) : List (Str × V) := [("cases", .ref cs), ("order", .ref ol), ("nodes", .ref nl), ("node_places", .ref dl)]
theorem dgF_cs (cs ol nl dl : Addr) : (dgF cs ol nl dl).lookup ("cases" : Str) = some (.ref cs) := lk_here
theorem dgF_ol (cs ol nl dl : Addr) : (dgF cs ol nl dl).lookup ("order" : Str) = some (.ref ol) := (lk_past (by decide +kernel)).trans lk_here
theorem dgF_nl (cs ol nl dl : Addr) : (dgF cs ol nl dl).lookup ("nodes" : Str) = some (.ref nl) := (lk_past (by decide +kernel)).trans ((lk_past (by decide +kernel)).trans lk_here)
theorem dgF_dl (cs ol nl dl : Addr) : (dgF cs ol nl dl).lookup ("node_places" : Str) = some (.ref dl) := (lk_past (by decide +kernel)).trans ((lk_past (by decide +kernel)).trans ((lk_past (by decide +kernel)).trans lk_here))
theorem dgF_m (cs ol nl dl : Addr) {m : Str} (h : notField m ["cases", "order", "nodes", "node_places"] = true) : (dgF cs ol nl dl).lookup m = none := no_field h
/-- at d: the diagram under way -/
structure DgAt (a : Ad) (H : Hp) (d dx cs ol nl dl : Addr) (o had : List Nat) (ads : List Addr) : Prop where
  me : H d = some (.ins a.c_Diagram dx (dgF cs ol nl dl))
  c : CasesAt a H cs
  o : H ol = some (.lst (nVs o))
  n : H nl = some (.lst (ads.map V.ref))
  d : H dl = some (.dK (dKo 0 had))
  z : ads.length = had.length
/-- all stands but the nodes' list and the dict -/
def Kp (H H' : Hp) (nl dl : Addr) : Prop := ∀ b o, H b = some o → b ≠ nl → b ≠ dl → H' b = some o
theorem Kp.trans {H H' H2 : Hp} {nl dl : Addr} (s : Kp H H' nl dl) (k : Kp H' H2 nl dl) : Kp H H2 nl dl := fun b o e n1 n2 => k b o (s b o e n1 n2) n1 n2
def NodeOk (H : Hp) (o res : List Nat) (p : Nat) (ad : Addr) : Prop := ∃ x y, H ad = some (.lst [nV (topV o p), nV x, nV y]) ∧ RefIs res (fixN p (topV o p) false) x ∧ RefIs res (fixN p (topV o p) true) y
def NewOk (H H' : Hp) (o res : List Nat) (k : Nat) (ads : List Addr) : Prop := ∀ i p ad, k ≤ i → res[i]? = some p → ads[i]? = some ad → H ad = none ∧ NodeOk H' o res p ad
/-- none of the first variables matters to it -/
def Past (o : List Nat) (f start : Nat) : Prop := ∀ i v, i < start → o[i]? = some v → hang f v = false
section
variable {P : Program} {w : World} {K : PySem.W.Frag} {mg : Str → Option Value} {base : Heap} {a : Ad}
def spPlace (a : Ad) (n : Nat) : Sp := fun vs H Q _ => ∃ (d part start dx cs ol nl dl : Nat) (o had : List Nat) (ads : List Addr), vs = [.ref d, nV part, nV start] ∧ DgAt a H d dx cs ol nl dl o had ads ∧ Diag.isOrder o = true ∧ part < Full ∧ start ≤ 10 ∧ 11 ≤ n + start ∧ Past o part start ∧ had.Nodup ∧ had.length + 2 ^ n ≤ 4096 ∧
  ∀ (H' : Hp) (ads' : List Addr) (x : Nat), DgAt a H' d dx cs ol nl dl o (meetP o n had part) (ads ++ ads') → Kp H H' nl dl → NewOk H H' o (meetP o n had part) had.length (ads ++ ads') → RefIs (meetP o n had part) part x → Q (nV x) H'
theorem scPl : FnScope ["self", "part", "start", "at", "variable", "place", "node"] ["self", "part", "start"] (defScope s_Diagram_place_of) := ⟨rfl, rfl, rfl, by decide +kernel, rfl, by decide +kernel, by decide +kernel⟩
theorem o_len {o : List Nat} (h : Diag.isOrder o = true) : o.length = 10 := by
  rw [(order_perm.mp h).length_eq, List.length_range]
theorem o_lt {o : List Nat} (h : Diag.isOrder o = true) {i v : Nat} (e : o[i]? = some v) : v < 10 := by
  simpa using (order_perm.mp h).mem_iff.mp (List.mem_of_getElem? e)
/-- a part that is no constant: some variable from start on matters -/
theorem some_hang {o : List Nat} (h : Diag.isOrder o = true) {f start : Nat} (hf : f < Full) (h0 : f ≠ 0) (h1 : f ≠ EV) (hp : Past o f start) : ∃ i v, start ≤ i ∧ o[i]? = some v ∧ hang f v = true := by
  refine Classical.byContradiction fun z => ?_
  have key : ∀ v, v < 10 → hang f v = false := fun v hv => by
    have hm : v ∈ o := (order_perm.mp h).mem_iff.mpr (by simpa using hv)
    obtain ⟨i, hi, e⟩ := List.getElem_of_mem hm
    have e' : o[i]? = some v := by rw [List.getElem?_eq_getElem hi, e]
    cases c : hang f v with
    | false => rfl
    | true =>
      by_cases q : i < start
      · rw [hp i v q e'] at c
        cases c
      · exact absurd ⟨i, v, by omega, e', c⟩ z
  rcases const_of_none hf key with q | q
  · exact h0 q
  · exact h1 q
theorem top_at {o : List Nat} {f at_ v : Nat} (hp : Past o f at_) (e : o[at_]? = some v) (h : hang f v = true) : topV o f = v := by
  unfold topV
  have q : o.find? (hang f) = some v := by
    rw [List.find?_eq_some_iff_getElem]
    obtain ⟨hi, e'⟩ := List.getElem?_eq_some_iff.mp e
    refine ⟨h, at_, hi, e', fun j hj => ?_⟩
    have e2 : o[j]? = some o[j] := List.getElem?_eq_getElem (by omega)
    rw [hp j _ hj e2]
    rfl
  rw [q]
  rfl
theorem past_fix {o : List Nat} (h : Diag.isOrder o = true) {f at_ v : Nat} (hf : f < Full) (hp : Past o f at_) (e : o[at_]? = some v) (z : Bool) : Past o (fixN f v z) (at_ + 1) := fun i u hi eu => by
  have hv := o_lt h e
  have hu := o_lt h eu
  by_cases c : i = at_
  · subst c
    rw [e] at eu
    cases eu
    exact hang_self hf hv z
  · exact hang_fix hf hu hv z (hp i u (by omega) eu)
theorem DgAt.kp {H H' : Hp} {d dx cs ol nl dl : Addr} {o had : List Nat} {ads : List Addr} (D : DgAt a H d dx cs ol nl dl o had ads) (k : Same H H') : DgAt a H' d dx cs ol nl dl o had ads :=
  ⟨k _ _ D.me, D.c.same k, k _ _ D.o, k _ _ D.n, k _ _ D.d, D.z⟩
theorem refs_no {l : List Nat} {ads : List Addr} (h : l ≠ []) : (nVs l : List V) ≠ ads.map V.ref := by
  intro z
  cases l with
  | nil => exact h rfl
  | cons x r =>
    cases ads with
    | nil => cases z
    | cons y t =>
      injection z with z
      cases z
theorem DgAt.nes {H : Hp} {d dx cs ol nl dl : Addr} {o had : List Nat} {ads : List Addr} (D : DgAt a H d dx cs ol nl dl o had ads) (h : Diag.isOrder o = true) : d ≠ nl ∧ d ≠ dl ∧ ol ≠ nl ∧ ol ≠ dl ∧ nl ≠ dl := by
  refine ⟨ne_of D.me D.n (by simp), ne_of D.me D.d (by simp), ne_of D.o D.n fun z => ?_, ne_of D.o D.d (by simp), ne_of D.n D.d (by simp)⟩
  injection z with z
  exact refs_no (fun z2 => by rw [z2] at h; exact absurd h (by decide)) z
theorem cases_off {H H' : Hp} {cs nl dl : Addr} {kvs : List (Key × V)} {ads : List Addr} (C : CasesAt a H cs) (en : H nl = some (.lst (ads.map V.ref))) (ed : H dl = some (.dK kvs)) (k : Kp H H' nl dl) : CasesAt a H' cs := by
  obtain ⟨dx, y, n, e1, e2, e3⟩ := C
  refine ⟨dx, y, n, k _ _ e1 (ne_of e1 en (by simp)) (ne_of e1 ed (by simp)), k _ _ e2 (ne_of e2 en fun z => ?_) (ne_of e2 ed (by simp)), k _ _ e3 (ne_of e3 en fun z => ?_) (ne_of e3 ed (by simp))⟩
  · injection z with z
    exact refs_no (by decide) z
  · injection z with z
    exact refs_no (by decide) z
end
end Ten
namespace Ten
open PySem PySem.Spec PyProof.Rows L2
/-! Diagram.place_of: the walk. -/
section
variable {P : Program} {w : World} {K : PySem.W.Frag} {mg : Str → Option Value} {base : Heap} {a : Ad}
theorem ok_place (T : Txt K mg a) : ∀ n : Nat, FnOk P w K mg base CX0 (3 + n) a.f_Diagram_place_of a.d_Diagram_place_of ["self", "part", "start"] (spPlace a n)
  | 0 => by
    refine T.Diagram_place_of.F.ok scPl (fun vs H Q E h => ?_) (fun cdv A outer s H vs Q E hr h => ?_)
    · obtain ⟨d, part, start, dx, cs, ol, nl, dl, o, had, ads, rfl, _⟩ := h
      rfl
    · obtain ⟨d, part, start, dx, cs, ol, nl, dl, o, had, ads, rfl, D, ho, hf, h1, h2, _⟩ := h
      omega
  | n + 1 => by
    have ih := ok_place T n
    refine T.Diagram_place_of.F.ok scPl (fun vs H Q E h => ?_) (fun cdv A outer s H vs Q E hr h => ⟨_,
      pss_cons (ps_if (pt_cmpR opn_eq (pv 1) (pe_gi rfl T.i_NO_EVERYWHERE) (nomark _)) (pss_one (ps_ret (pe_gi rfl T.i_NO))) pss_nil)
      (pss_cons (ps_if (pt_cmpR opn_eq (pv 1) (pe_fld (pe_fld (pv 0) rfl) rfl) (nomark _)) (pss_one (ps_ret (pe_gi rfl T.i_YES))) pss_nil)
      (pss_cons (ps_if (pt_cmp (pc_din (hu_of hr) (pv 1) (pe_fld (pv 0) rfl))) (pss_one (ps_ret (pe_dget (hu_of hr) (pe_fld (pv 0) rfl) (pv 1) (fun _ _ => rfl)))) pss_nil)
      (pss_cons (ps_set (i := 3) scPl.nd rfl (.inl rfl) (pv 2))
      (pss_cons (ps_while PassesOwn.never (pt_not (pt_val (pe_meth (pe_fld (pv 0) rfl) T.cl_Cases T.Cases_matters_to.M (ok_mat T) (hr.mono (Nat.le_trans (by decide : 2 ≤ 3) (Nat.le_add_right 3 n))) T.Cases_matters_to.b .nil pass0 (pa_cons (pe_ix ix_list (pe_fld (pv 0) rfl) (pv 3) (fun _ _ => rfl)) (pa_cons (pv 1) pa_nil)))))
        (pss_one (ps_aug (i := 3) scPl.nd rfl (.inl rfl) pe_int ip_add)))
      (pss_cons (ps_set (i := 4) scPl.nd rfl (.inl rfl) (pe_ix ix_list (pe_fld (pv 0) rfl) (pv 3) (fun _ _ => rfl)))
      (pss_cons (ps_set (i := 5) scPl.nd rfl (.inl rfl) (pe_op op_addN (pe_callB call_len_seq (by rfl) T.b_len PySem.boot_len (pa_cons (pe_fld (pv 0) rfl) pa_nil)) (pe_gi rfl T.i_FIRST_NODE)))
      (pss_cons (ps_dput (hu_of hr) (pe_fld (pv 0) rfl) (pv 1) (pv 5) rfl)
      (pss_cons (ps_set (i := 6) scPl.nd rfl (.inl rfl) (pe_lst (pa_cons (pv 4) (pa_cons (pe_gi rfl T.i_NO) (pa_cons (pe_gi rfl T.i_NO) pa_nil)))))
      (pss_cons (ps_expr (pe_bm PySem.F.plainAttrs_list PySem.F.slot_list_append PySem.F.type_list_append mt_append (pe_fld (pv 0) rfl) (pa_cons (pv 6) pa_nil)))
      (pss_cons (ps_asg (pe_meth (pv 0) T.cl_Diagram T.Diagram_place_of.M ih hr T.Diagram_place_of.b .nil pass0 (pa_cons (pe_meth (pe_fld (pv 0) rfl) T.cl_Cases T.Cases_fixed.M (ok_fix T) (hr.mono (Nat.le_trans (by decide : 1 ≤ 3) (Nat.le_add_right 3 n))) T.Cases_fixed.b .nil pass0 (pa_cons (pv 1) (pa_cons (pv 4) (pa_cons pe_int pa_nil)))) (pa_cons (pe_op op_addN (pv 3) pe_int) pa_nil))) (pg_sub (pv 6) pe_int set_list))
      (pss_cons (ps_asg (pe_meth (pv 0) T.cl_Diagram T.Diagram_place_of.M ih hr T.Diagram_place_of.b .nil pass0 (pa_cons (pe_meth (pe_fld (pv 0) rfl) T.cl_Cases T.Cases_fixed.M (ok_fix T) (hr.mono (Nat.le_trans (by decide : 1 ≤ 3) (Nat.le_add_right 3 n))) T.Cases_fixed.b .nil pass0 (pa_cons (pv 1) (pa_cons (pv 4) (pa_cons pe_int pa_nil)))) (pa_cons (pe_op op_addN (pv 3) pe_int) pa_nil))) (pg_sub (pv 6) pe_int set_list))
      (pss_one (ps_ret (pv 5)))))))))))))), ?_⟩)
    · obtain ⟨d, part, start, dx, cs, ol, nl, dl, o, had, ads, rfl, _⟩ := h
      rfl
    · obtain ⟨d, part, start, dx, cs, ol, nl, dl, o, had, ads, rfl, D, ho, hf, h1, h2, hp, hn, hz, q⟩ := h
      obtain ⟨dxc, y, nn, c1, c2, c3⟩ := id D.c
      obtain ⟨m1, m2, m3, m4, m5⟩ := D.nes ho
      refine ⟨_, rfl, part, 0, rfl, rfl, _, rfl, ?_⟩
      by_cases k0 : part = 0
      · rw [decide_eq_true k0]
        subst k0
        have em : meetP o (n + 1) had 0 = had := by
          unfold meetP
          exact if_pos (.inl rfl)
        refine iteT ?_
        rw [em] at q
        exact q H [] 0 (by rw [List.append_nil]; exact D) (fun b o e _ _ => e) (fun i p ad hi e1 e2 => by rw [List.append_nil] at e2; exact absurd (List.getElem?_eq_some_iff.mp e1).1 (by omega)) (.inl ⟨rfl, rfl⟩)
      rw [decide_eq_false k0]
      refine iteF ⟨_, rfl, _, rfl, d, _, dx, _, _, rfl, D.me, T.cl_Diagram, T.no_Diagram_cases, dgF_cs cs ol nl dl, cs, _, dxc, _, _, rfl, c1, T.cl_Cases, T.no_Cases_everywhere, csF_ev y nn, part, EV, rfl, rfl, _, rfl, ?_⟩
      by_cases k1 : part = EV
      · rw [decide_eq_true k1]
        have em : meetP o (n + 1) had part = had := by
          unfold meetP
          exact if_pos (.inr (.inl k1))
        refine iteT ?_
        rw [em] at q
        exact q H [] 1 (by rw [List.append_nil]; exact D) (fun b o e _ _ => e) (fun i p ad hi e1 e2 => by rw [List.append_nil] at e2; exact absurd (List.getElem?_eq_some_iff.mp e1).1 (by omega)) (.inr (.inl ⟨k0, k1, rfl⟩))
      rw [decide_eq_false k1]
      refine iteF ⟨_, rfl, _, rfl, d, _, dx, _, _, rfl, D.me, T.cl_Diagram, T.no_Diagram_node_places, dgF_dl cs ol nl dl, dl, _, rfl, DGet.k (k := Sum.inl ((part : Nat) : Int)) D.d, _, rfl, ?_⟩
      by_cases k2 : part ∈ had
      · obtain ⟨i, hi, ei⟩ := List.getElem_of_mem k2
        have ei' : had[i]? = some part := by rw [List.getElem?_eq_getElem hi, ei]
        have ev := dKo_at 0 had i hn ei'
        have em : meetP o (n + 1) had part = had := by
          unfold meetP
          exact if_pos (.inr (.inr k2))
        rw [ev]
        refine iteT ⟨_, rfl, d, _, dx, _, _, rfl, D.me, T.cl_Diagram, T.no_Diagram_node_places, dgF_dl cs ol nl dl, _, rfl, dl, _, rfl, (by have z := DGet.k (k := Sum.inl ((part : Nat) : Int)) D.d; rw [ev] at z; exact z), ?_⟩
        rw [em] at q
        rw [Nat.zero_add]
        exact q H [] (2 + i) (by rw [List.append_nil]; exact D) (fun b o e _ _ => e) (fun i p ad hi e1 e2 => by rw [List.append_nil] at e2; exact absurd (List.getElem?_eq_some_iff.mp e1).1 (by omega)) (.inr (.inr ⟨k0, k1, i, ei', rfl⟩))
      rw [dKo_none 0 had k2]
      refine iteF ⟨_, rfl, ?_⟩
      have em : meetP o (n + 1) had part = meetP o n (meetP o n (had ++ [part]) (fixN part (topV o part) false)) (fixN part (topV o part) true) := by
        conv => lhs; unfold meetP
        exact if_neg (by rintro (z | z | z); exact k0 z; exact k1 z; exact k2 z)
      rw [em] at q
      -- the while
      refine while_by (fun σ H' => H' = H ∧ ∃ (at_ : Nat) (v4 v5 v6 : Option V), σ = [some (.ref d), some (nV part), some (nV start), some (nV at_), v4, v5, v6] ∧ start ≤ at_ ∧ Past o part at_)
        (fun σ _ => match σ with | [_, _, _, some (.int i), _, _, _] => 10 - i.toNat | _ => 0) ⟨rfl, start, none, none, none, rfl, Nat.le_refl _, hp⟩ ?_ ?_
      · rintro σ H' ⟨rfl, at_, v4, v5, v6, rfl, hs, hp2⟩
        obtain ⟨i, v, hi, ei, hv⟩ := some_hang ho hf k0 k1 hp2
        have hio := (List.getElem?_eq_some_iff.mp ei).1
        have lo := o_len ho
        have ea : o[at_]? = some o[at_] := List.getElem?_eq_getElem (by omega)
        have va := o_lt ho ea
        refine ⟨_, rfl, d, _, dx, _, _, rfl, D.me, T.cl_Diagram, T.no_Diagram_cases, dgF_cs cs ol nl dl, cs, dxc, _, rfl, c1, csF_m y nn (by decide +kernel), ?_⟩
        refine ⟨_, rfl, d, _, dx, _, _, rfl, D.me, T.cl_Diagram, T.no_Diagram_order, dgF_ol cs ol nl dl, _, rfl, ol, _, _, _, rfl, rfl, SqL.of D.o, at_nat (nVs_get ea), _, rfl, cs, _, part, rfl, D.c, hf, va, _, rfl, ?_⟩
        cases c : hang part o[at_] with
        | false =>
          refine iteT ⟨_, rfl, _, _, rfl, rfl, ⟨⟨rfl, at_ + 1, v4, v5, v6, rfl, by omega, fun j u hj eu => ?_⟩, ?_⟩⟩
          · by_cases q2 : j = at_
            · subst q2
              rw [ea] at eu
              cases eu
              exact c
            · exact hp2 j u (by omega) eu
          · show 10 - ((at_ : Int) + 1).toNat < 10 - (at_ : Int).toNat
            omega
        | true =>
          have et : topV o part = o[at_] := top_at hp2 ea c
          rw [et] at q
          generalize o[at_] = v at ea va c et q
          have lads : (ads.map V.ref).length = had.length := by rw [List.length_map]; exact D.z
          have ep : V.int (((ads.map V.ref).length : Nat) + (2 : Int)) = nV (2 + had.length) := by
            rw [lads, Nat.add_comm]
            rfl
          have hb := D.z
          refine iteF ⟨_, rfl, d, _, dx, _, _, rfl, D.me, T.cl_Diagram, T.no_Diagram_order, dgF_ol cs ol nl dl, _, rfl, ol, _, _, _, rfl, rfl, SqL.of D.o, at_nat (nVs_get ea), ?_⟩
          refine ⟨_, rfl, d, _, dx, _, _, rfl, D.me, T.cl_Diagram, T.no_Diagram_nodes, dgF_nl cs ol nl dl, nl, _, rfl, .inl (SqL.of D.n), _, _, rfl, rfl, ?_⟩
          have hlen : (dKo 0 had).length < sizeLine := by
            rw [dKo_len, sizeLine_eq]
            have := Nat.two_pow_pos (n + 1)
            omega
          refine ⟨_, rfl, _, rfl, d, _, dx, _, _, rfl, D.me, T.cl_Diagram, T.no_Diagram_node_places, dgF_dl cs ol nl dl, _, rfl, dl, _, rfl, DPut.k (k := Sum.inl ((part : Nat) : Int)) D.d hlen, ?_⟩
          have eput : putK (dKo 0 had) (Sum.inl ((part : Nat) : Int)) (V.int (((ads.map V.ref).length : Nat) + (2 : Int))) = dKo 0 (had ++ [part]) := by
            rw [putK_new _ (dKo_none 0 had k2), dKo_snoc, ep, Nat.zero_add]
          refine ⟨_, rfl, (by show 3 ≤ sizeLine; decide), fun nd hnd => ?_⟩
          have ndl : nd ≠ dl := fun z => by
            rw [z, upd_same] at hnd
            cases hnd
          have hnd0 := hnd
          rw [upd_ne ndl] at hnd0
          have old : ∀ {b : Addr} {o : HO}, H' b = some o → b ≠ nd := fun {b o} e => ne_of_none e hnd0
          have nln := old D.n
          have enl : upd (upd H' dl (.dK (putK (dKo 0 had) (Sum.inl ((part : Nat) : Int)) (V.int (((ads.map V.ref).length : Nat) + (2 : Int)))))) nd (.lst [nV v, .int 0, .int 0]) nl = some (.lst (ads.map V.ref)) := by
            rw [upd_ne nln, upd_ne m5]
            exact D.n
          have eme : upd (upd H' dl (.dK (putK (dKo 0 had) (Sum.inl ((part : Nat) : Int)) (V.int (((ads.map V.ref).length : Nat) + (2 : Int)))))) nd (.lst [nV v, .int 0, .int 0]) d = some (.ins a.c_Diagram dx (dgF cs ol nl dl)) := by
            rw [upd_ne (old D.me), upd_ne m2]
            exact D.me
          refine ⟨_, rfl, d, _, dx, _, _, rfl, eme, T.cl_Diagram, T.no_Diagram_nodes, dgF_nl cs ol nl dl, .inl ⟨rfl, _, SqL.of enl⟩, _, rfl, nl, _, _, rfl, rfl, enl, ?_, ?_⟩
          · rw [lads, sizeLine_eq]
            have := Nat.two_pow_pos (n + 1)
            omega
          -- the heap behind
          obtain ⟨H3, h3⟩ : ∃ G, upd (upd (upd H' dl (.dK (putK (dKo 0 had) (Sum.inl ((part : Nat) : Int)) (V.int (((ads.map V.ref).length : Nat) + (2 : Int)))))) nd (.lst [nV v, .int 0, .int 0])) nl (.lst (ads.map V.ref ++ [V.ref nd])) = G := ⟨_, rfl⟩
          have K3 : Kp H' H3 nl dl := fun b o e n1 n2 => by
            rw [← h3, upd_ne n1, upd_ne (old e), upd_ne n2]
            exact e
          have e3n : H3 nl = some (.lst ((ads ++ [nd]).map V.ref)) := by
            rw [← h3, upd_same, List.map_append]
            rfl
          have e3d : H3 dl = some (.dK (dKo 0 (had ++ [part]))) := by
            rw [← h3, upd_ne (Ne.symm m5), upd_ne (old D.d), upd_same, eput]
          have e3x : H3 nd = some (.lst [nV v, .int 0, .int 0]) := by
            rw [← h3, upd_ne (Ne.symm nln), upd_same]
          have D3 : DgAt a H3 d dx cs ol nl dl o (had ++ [part]) (ads ++ [nd]) := ⟨K3 _ _ D.me m1 m2, cases_off D.c D.n D.d K3, K3 _ _ D.o m3 m4, e3n, e3d, by simp [hb]⟩
          subst h3
          have step : at_ + 1 ≤ 10 := by omega
          have z2 : 2 ^ (n + 1) = 2 ^ n + 2 ^ n := by rw [Nat.pow_succ, Nat.mul_two]
          have z1 := Nat.two_pow_pos n
          have hn1 : (had ++ [part]).Nodup := List.nodup_append.mpr ⟨hn, by simp, fun x hx u hu e => by
            rw [List.mem_singleton] at hu
            exact k2 (hu ▸ e ▸ hx)⟩
          obtain ⟨dxc3, y3, nn3, c31, _, _⟩ := id D3.c
          refine ⟨_, rfl, d, dx, _, rfl, D3.me, dgF_m cs ol nl dl (by decide +kernel), _, rfl, d, _, dx, _, _, rfl, D3.me, T.cl_Diagram, T.no_Diagram_cases, dgF_cs cs ol nl dl, cs, dxc3, _, rfl, c31, csF_m y3 nn3 (by decide +kernel), _, rfl, _, rfl, cs, part, v, 0, rfl, D3.c, hf, va, _, rfl, _, _, rfl, rfl, ?_⟩
          refine ⟨d, fixN part v false, at_ + 1, dx, cs, ol, nl, dl, o, had ++ [part], ads ++ [nd], rfl, D3, ho, fixN_lt _ hf va, step, by omega, past_fix ho hf hp2 ea false, hn1, by rw [List.length_append, List.length_singleton]; omega, fun H4 ads1 x D4 K4 N4 R4 => ?_⟩
          have e4x : H4 nd = some (.lst [nV v, .int 0, .int 0]) := K4 _ _ e3x (Ne.symm nln) ndl
          refine ⟨_, rfl, nd, _, 1, 1, rfl, rfl, e4x, rfl, ?_⟩
          obtain ⟨H5, h5⟩ : ∃ G, upd H4 nd (.lst ([nV v, .int 0, .int 0].set 1 (nV x))) = G := ⟨_, rfl⟩
          have K5 : Kp H' H5 nl dl := fun b o e n1 n2 => by
            rw [← h5, upd_ne (old e)]
            exact K4 _ _ (K3 _ _ e n1 n2) n1 n2
          have e5x : H5 nd = some (.lst [nV v, nV x, .int 0]) := by
            rw [← h5, upd_same]
            rfl
          have s5 : ∀ {b : Addr}, b ≠ nd → H5 b = H4 b := fun {b} n => by
            rw [← h5, upd_ne n]
          have D5 : DgAt a H5 d dx cs ol nl dl o (meetP o n (had ++ [part]) (fixN part v false)) ((ads ++ [nd]) ++ ads1) := ⟨K5 _ _ D.me m1 m2, cases_off D.c D.n D.d K5, K5 _ _ D.o m3 m4, (s5 nln).trans D4.n, (s5 (Ne.symm ndl)).trans D4.d, D4.z⟩
          subst h5
          have l4 := meetP_len o n (had ++ [part]) (fixN part v false)
          rw [List.length_append, List.length_singleton] at l4
          obtain ⟨dxc5, y5, nn5, c51, _, _⟩ := id D5.c
          refine ⟨_, rfl, d, dx, _, rfl, D5.me, dgF_m cs ol nl dl (by decide +kernel), _, rfl, d, _, dx, _, _, rfl, D5.me, T.cl_Diagram, T.no_Diagram_cases, dgF_cs cs ol nl dl, cs, dxc5, _, rfl, c51, csF_m y5 nn5 (by decide +kernel), _, rfl, _, rfl, cs, part, v, 1, rfl, D5.c, hf, va, _, rfl, _, _, rfl, rfl, ?_⟩
          refine ⟨d, fixN part v true, at_ + 1, dx, cs, ol, nl, dl, o, _, (ads ++ [nd]) ++ ads1, rfl, D5, ho, fixN_lt _ hf va, step, by omega, past_fix ho hf hp2 ea true, meetP_nodup o n _ _ hn1, by omega, fun H6 ads2 x2 D6 K6 N6 R6 => ?_⟩
          have e6x : H6 nd = some (.lst [nV v, nV x, .int 0]) := K6 _ _ e5x (Ne.symm nln) ndl
          refine ⟨_, rfl, nd, _, 2, 2, rfl, rfl, e6x, rfl, _, rfl, ?_⟩
          obtain ⟨H7, h7⟩ : ∃ G, upd H6 nd (.lst ([nV v, nV x, .int 0].set 2 (nV x2))) = G := ⟨_, rfl⟩
          have K7 : Kp H' H7 nl dl := fun b o e n1 n2 => by
            rw [← h7, upd_ne (old e)]
            exact K6 _ _ (K5 _ _ e n1 n2) n1 n2
          have e7x : H7 nd = some (.lst [nV v, nV x, nV x2]) := by
            rw [← h7, upd_same]
            rfl
          have s7 : ∀ {b : Addr}, b ≠ nd → H7 b = H6 b := fun {b} n => by
            rw [← h7, upd_ne n]
          have ea7 : ((ads ++ [nd]) ++ ads1) ++ ads2 = ads ++ (nd :: (ads1 ++ ads2)) := by simp
          rw [ea7] at D6 N6
          have D7 : DgAt a H7 d dx cs ol nl dl o _ (ads ++ (nd :: (ads1 ++ ads2))) := ⟨K7 _ _ D.me m1 m2, cases_off D.c D.n D.d K7, K7 _ _ D.o m3 m4, (s7 nln).trans D6.n, (s7 (Ne.symm ndl)).trans D6.d, D6.z⟩
          have p1 := meetP_pre o n (had ++ [part]) (fixN part v false)
          have p2 := meetP_pre o n (meetP o n (had ++ [part]) (fixN part v false)) (fixN part v true)
          have hp0 : (had ++ [part])[had.length]? = some part := by simp
          subst h7
          show Q (V.int (((ads.map V.ref).length : Nat) + (2 : Int))) _
          rw [ep]
          have free : ∀ {b : Addr} {G : Hp}, Kp H' G nl dl → (∃ o, G nl = some o) → (∃ o, G dl = some o) → G b = none → H' b = none := fun {b G} k ⟨o1, q1⟩ ⟨o2, q2⟩ e => by
            cases c : H' b with
            | none => rfl
            | some o =>
              have n1 : b ≠ nl := ne_of_none q1 e |>.symm
              have n2 : b ≠ dl := ne_of_none q2 e |>.symm
              rw [k b o c n1 n2] at e
              cases e
          refine q _ (nd :: (ads1 ++ ads2)) (2 + had.length) D7 K7 (fun i p ad hi e1 e2 => ?_) (.inr (.inr ⟨k0, k1, had.length, pre_at p2 (pre_at p1 hp0), rfl⟩))
          by_cases i0 : i = had.length
          · subst i0
            rw [pre_at p2 (pre_at p1 hp0)] at e1
            cases e1
            have e2' : (ads ++ (nd :: (ads1 ++ ads2)))[had.length]? = some nd := by
              rw [← hb]
              simp
            rw [e2'] at e2
            cases e2
            exact ⟨hnd0, x, x2, by rw [et]; exact e7x, by rw [et]; exact (R4.pre p2), by rw [et]; exact R6⟩
          · by_cases i1 : i < (meetP o n (had ++ [part]) (fixN part v false)).length
            · have e1' : (meetP o n (had ++ [part]) (fixN part v false))[i]? = some p := by
                obtain ⟨t, ht⟩ := p2
                rw [← ht, List.getElem?_append_left i1] at e1
                exact e1
              have e2' : ((ads ++ [nd]) ++ ads1)[i]? = some ad := by
                rw [← ea7, List.getElem?_append_left (by rw [D4.z]; exact i1)] at e2
                exact e2
              obtain ⟨n4, xx, yy, t1, t2, t3⟩ := N4 i p ad (by rw [List.length_append, List.length_singleton]; omega) e1' e2'
              have a1 : ad ≠ nd := (ne_of_none e3x n4).symm
              have a2 : ad ≠ nl := (ne_of_none e3n n4).symm
              have a3 : ad ≠ dl := (ne_of_none e3d n4).symm
              exact ⟨free K3 ⟨_, e3n⟩ ⟨_, e3d⟩ n4, xx, yy, (s7 a1).trans (K6 _ _ ((s5 a1).trans t1) a2 a3), t2.pre p2, t3.pre p2⟩
            · obtain ⟨n4, xx, yy, t1, t2, t3⟩ := N6 i p ad (by omega) e1 e2
              have a1 : ad ≠ nd := (ne_of_none e5x n4).symm
              exact ⟨free K5 ⟨_, D5.n⟩ ⟨_, D5.d⟩ n4, xx, yy, (s7 a1).trans t1, t2, t3⟩
      · rintro σ H2 Q1 Q2 hk ⟨x1, a1, d1, C1, dx1, f1, v1, b1, b2, b3, b4, b5, cs1, dx2, f2, b6, b7, b8, x2, a2, d2, C2, dx3, f3, v3, b9, b10, b11, b12, b13, x3, a3, ol1, xs1, i1, u1, b14, b15, b16, b17, x4, a4, cs2, vv, ff, b18, b19, b20, b21, bb, b22, q0⟩
        exact ⟨x1, a1, d1, C1, dx1, f1, v1, b1, b2, b3, b4, b5, cs1, dx2, f2, b6, b7, b8, x2, a2, d2, C2, dx3, f3, v3, b9, b10, b11, b12, b13, x3, a3, ol1, xs1, i1, u1, b14, b15, b16, b17, x4, a4, cs2, vv, ff, b18, b19, b20, b21, bb, b22, hk _ _ q0⟩
end
end Ten
namespace Ten
/-! The specification's diagram, told by parts. -/
/-- the values by an order's rest -/
def TT : List Nat → Nat → List Bool
  | [], f => [f.testBit 0]
  | v :: o, f => TT o (fixN f v false) ++ TT o (fixN f v true)
theorem TT_len : ∀ (o : List Nat) (f : Nat), (TT o f).length = 2 ^ o.length
  | [], _ => rfl
  | v :: o, f => by
    show (TT o _ ++ TT o _).length = _
    rw [List.length_append, TT_len o, TT_len o, List.length_cons, Nat.pow_succ, Nat.mul_two]
/-- it hangs on none but these -/
def Dep (o : List Nat) (f : Nat) : Prop := ∀ v, v < 10 → v ∉ o → hang f v = false
theorem Dep.fix {o : List Nat} {v f : Nat} (hf : f < Full) (hv : v < 10) (h : Dep (v :: o) f) (z : Bool) : Dep o (fixN f v z) := fun u hu hn => by
  by_cases e : u = v
  · subst e
    exact hang_self hf hu z
  · exact hang_fix hf hu hv z (h u hu fun q => by rcases List.mem_cons.mp q with q | q; exact e q; exact hn q)
theorem Dep.skip {o : List Nat} {v f : Nat} (h : Dep (v :: o) f) (hv : hang f v = false) : Dep o f := fun u hu hn => by
  by_cases e : u = v
  · subst e
    exact hv
  · exact h u hu fun q => by rcases List.mem_cons.mp q with q | q; exact e q; exact hn q
theorem Dep.more {o o' : List Nat} {f : Nat} (h : Dep o f) (s : ∀ v ∈ o, v ∈ o') : Dep o' f := fun u hu hn => h u hu fun q => hn (s u q)
theorem fix_inj {f g v : Nat} (hf : f < Full) (hg : g < Full) (hv : v < 10) (h0 : fixN f v false = fixN g v false) (h1 : fixN f v true = fixN g v true) : f = g :=
  f_ext hf hg fun m hm => by
    cases c : m.testBit v with
    | false =>
      have q := congrArg (fun n : Nat => n.testBit m) h0
      simp only [fixN_bit false hf hv hm, fixN_bit false hg hv hm, setVar_same c] at q
      exact q
    | true =>
      have q := congrArg (fun n : Nat => n.testBit m) h1
      simp only [fixN_bit true hf hv hm, fixN_bit true hg hv hm, setVar_same c] at q
      exact q
theorem TT_inj : ∀ (o : List Nat) {f g : Nat}, (∀ v ∈ o, v < 10) → f < Full → g < Full → Dep o f → Dep o g → TT o f = TT o g → f = g
  | [], f, g, _, hf, hg, df, dg, h => by
    have h' : f.testBit 0 = g.testBit 0 := by injection h
    rcases const_of_none hf (fun v hv => df v hv (by simp)) with q | q <;> rcases const_of_none hg (fun v hv => dg v hv (by simp)) with q2 | q2
    · rw [q, q2]
    · rw [q, q2, Nat.zero_testBit, EV_bit] at h'
      cases h'
    · rw [q, q2, Nat.zero_testBit, EV_bit] at h'
      cases h'
    · rw [q, q2]
  | v :: o, f, g, ho, hf, hg, df, dg, h => by
    have hv : v < 10 := ho v List.mem_cons_self
    have ho' : ∀ u ∈ o, u < 10 := fun u hu => ho u (List.mem_cons_of_mem _ hu)
    have h' : TT o (fixN f v false) ++ TT o (fixN f v true) = TT o (fixN g v false) ++ TT o (fixN g v true) := h
    obtain ⟨q0, q1⟩ := List.append_inj h' (by rw [TT_len, TT_len])
    exact fix_inj hf hg hv (TT_inj o ho' (fixN_lt _ hf hv) (fixN_lt _ hg hv) (df.fix hf hv _) (dg.fix hg hv _) q0) (TT_inj o ho' (fixN_lt _ hf hv) (fixN_lt _ hg hv) (df.fix hf hv _) (dg.fix hg hv _) q1)

/-! ### rowOf -/
/-- the case by an order's rest, from what is set already -/
def placeC : List Nat → Nat → Nat → Nat
  | [], _, m => m
  | v :: o, j, m => placeC o j (if j.testBit o.length = true then m + 2 ^ v else m)
theorem placeC_fold : ∀ (o : List Nat) (i j m : Nat), i + o.length = 10 → (o.zipIdx i).foldl (fun (m : Nat) (x : Nat × Nat) => if j.testBit (Diag.VARS - 1 - x.2) = true then m + 2 ^ x.1 else m) m = placeC o j m
  | [], _, _, _, _ => rfl
  | v :: o, i, j, m, h => by
    rw [List.length_cons] at h
    rw [List.zipIdx_cons, List.foldl_cons, placeC_fold o (i + 1) j _ (by omega)]
    show placeC o j (if j.testBit (10 - 1 - i) = true then m + 2 ^ v else m) = placeC o j _
    rw [show 10 - 1 - i = o.length by omega]
theorem placeC_bit : ∀ (o : List Nat) (j m : Nat), o.Nodup → (∀ v ∈ o, m.testBit v = false) → ∀ u, u ∉ o → (placeC o j m).testBit u = m.testBit u
  | [], _, _, _, _, _, _ => rfl
  | v :: o, j, m, hn, hm, u, hu => by
    have hn' := List.nodup_cons.mp hn
    have hv := hm v List.mem_cons_self
    have ne : u ≠ v := fun z => hu (by rw [z]; exact List.mem_cons_self)
    show (placeC o j _).testBit u = _
    rw [placeC_bit o j _ hn'.2 (fun x hx => ?_) u fun z => hu (List.mem_cons_of_mem _ z)]
    · split
      · rw [add_bit v m u hv, if_neg ne]
      · rfl
    · have nx : x ≠ v := fun z => hn'.1 (z ▸ hx)
      split
      · rw [add_bit v m x hv, if_neg nx]
        exact hm x (List.mem_cons_of_mem _ hx)
      · exact hm x (List.mem_cons_of_mem _ hx)
theorem placeC_set : ∀ (o : List Nat) (j m v : Nat), o.Nodup → v ∉ o → (∀ u ∈ o, m.testBit u = false) → m.testBit v = false → placeC o j (m + 2 ^ v) = Diag.setVar (placeC o j m) v true
  | [], j, m, v, _, _, _, hv => by
    unfold Diag.setVar
    show m + 2 ^ v = _
    rw [if_neg (by show ¬ m.testBit v = true; rw [hv]; decide), if_pos rfl]
    rfl
  | u :: o, j, m, v, hn, hvo, hm, hv => by
    have hn' := List.nodup_cons.mp hn
    have nu : v ≠ u := fun z => hvo (by rw [z]; exact List.mem_cons_self)
    have hu := hm u List.mem_cons_self
    have hm' : ∀ x ∈ o, m.testBit x = false := fun x hx => hm x (List.mem_cons_of_mem _ hx)
    have hvo' : v ∉ o := fun z => hvo (List.mem_cons_of_mem _ z)
    show placeC o j (if _ then _ else _) = Diag.setVar (placeC o j (if _ then _ else _)) v true
    split
    · rw [show m + 2 ^ v + 2 ^ u = (m + 2 ^ u) + 2 ^ v by omega]
      refine placeC_set o j _ v hn'.2 hvo' (fun x hx => ?_) ?_
      · rw [add_bit u m x hu, if_neg (fun z : x = u => hn'.1 (z ▸ hx))]
        exact hm' x hx
      · rw [add_bit u m v hu, if_neg nu]
        exact hv
    · exact placeC_set o j m v hn'.2 hvo' hm' hv
theorem placeC_lt : ∀ (o : List Nat) (j m : Nat), o.Nodup → (∀ v ∈ o, v < 10) → (∀ v ∈ o, m.testBit v = false) → m < 1024 → placeC o j m < 1024
  | [], _, _, _, _, _, h => h
  | v :: o, j, m, hn, ho, hm, h => by
    have hn' := List.nodup_cons.mp hn
    have hv := hm v List.mem_cons_self
    show placeC o j _ < _
    refine placeC_lt o j _ hn'.2 (fun x hx => ho x (List.mem_cons_of_mem _ hx)) (fun x hx => ?_) ?_
    · split
      · rw [add_bit v m x hv, if_neg (fun z : x = v => hn'.1 (z ▸ hx))]
        exact hm x (List.mem_cons_of_mem _ hx)
      · exact hm x (List.mem_cons_of_mem _ hx)
    · split
      · have e : m + 2 ^ v = Diag.setVar m v true := by
          unfold Diag.setVar
          rw [if_neg (by rw [hv]; decide), if_pos rfl]
        rw [e]
        exact setVar_lt _ h (ho v List.mem_cons_self)
      · exact h
theorem placeC_low : ∀ (o : List Nat) (j k m : Nat), o.length ≤ k → placeC o (j + 2 ^ k) m = placeC o j m
  | [], _, _, _, _ => rfl
  | v :: o, j, k, m, h => by
    rw [List.length_cons] at h
    show placeC o (j + 2 ^ k) (if (j + 2 ^ k).testBit o.length = true then _ else _) = placeC o j (if _ then _ else _)
    have e : (j + 2 ^ k).testBit o.length = j.testBit o.length := by
      rw [Nat.add_comm, Nat.testBit_two_pow_add_gt (by omega)]
    rw [e, placeC_low o j k _ (by omega)]
theorem TT_row : ∀ (o : List Nat) (f : Nat), o.Nodup → (∀ v ∈ o, v < 10) → f < Full → TT o f = (List.range (2 ^ o.length)).map fun j => f.testBit (placeC o j 0)
  | [], f, _, _, _ => rfl
  | v :: o, f, hn, ho, hf => by
    have hn' := List.nodup_cons.mp hn
    have hv : v < 10 := ho v List.mem_cons_self
    have ho' : ∀ x ∈ o, x < 10 := fun x hx => ho x (List.mem_cons_of_mem _ hx)
    have z0 : ∀ x ∈ o, (0 : Nat).testBit x = false := fun x _ => Nat.zero_testBit x
    show TT o _ ++ TT o _ = _
    rw [TT_row o _ hn'.2 ho' (fixN_lt _ hf hv), TT_row o _ hn'.2 ho' (fixN_lt _ hf hv), List.length_cons, Nat.pow_succ, Nat.mul_two, List.range_add, List.map_append, List.map_map]
    congr 1
    · refine List.map_congr_left fun j hj => ?_
      rw [List.mem_range] at hj
      have lt := placeC_lt o j 0 hn'.2 ho' z0 (by decide)
      rw [fixN_bit false hf hv lt, setVar_same (by rw [placeC_bit o j 0 hn'.2 z0 v hn'.1]; exact Nat.zero_testBit v)]
      show _ = f.testBit (placeC o j (if j.testBit o.length = true then 0 + 2 ^ v else 0))
      rw [if_neg (by rw [Nat.testBit_lt_two_pow hj]; decide)]
    · refine List.map_congr_left fun j hj => ?_
      rw [List.mem_range] at hj
      have lt := placeC_lt o j 0 hn'.2 ho' z0 (by decide)
      rw [fixN_bit true hf hv lt, ← placeC_set o j 0 v hn'.2 hn'.1 z0 (Nat.zero_testBit v)]
      show _ = f.testBit (placeC o (2 ^ o.length + j) (if (2 ^ o.length + j).testBit o.length = true then 0 + 2 ^ v else 0))
      rw [Nat.testBit_two_pow_add_eq, Nat.testBit_lt_two_pow hj, if_pos (show (!false) = true from rfl), Nat.add_comm (2 ^ o.length) j, placeC_low o j _ _ (Nat.le_refl _)]
theorem ord_nodup {o : List Nat} (h : Diag.isOrder o = true) : o.Nodup := (order_perm.mp h).nodup_iff.mpr List.nodup_range
theorem ord_len {o : List Nat} (h : Diag.isOrder o = true) : o.length = 10 := by
  rw [(order_perm.mp h).length_eq, List.length_range]
theorem ord_lt {o : List Nat} (h : Diag.isOrder o = true) : ∀ v ∈ o, v < 10 := fun v hv => by
  simpa using (order_perm.mp h).mem_iff.mp hv
theorem row_TT {o : List Nat} (h : Diag.isOrder o = true) {f : Nat} (hf : f < Full) : Diag.rowOf o f = TT o f := by
  rw [TT_row o f (ord_nodup h) (ord_lt h) hf, ord_len h]
  unfold Diag.rowOf Diag.caseBy Diag.value
  refine List.map_congr_left fun j _ => ?_
  rw [placeC_fold o 0 j 0 (by rw [ord_len h])]
theorem ord_dep {o : List Nat} (h : Diag.isOrder o = true) (f : Nat) : Dep o f := fun v hv hn => absurd ((order_perm.mp h).mem_iff.mpr (by simpa using hv)) hn
/-! ### the rows of parts -/
def trim (o : List Nat) (f : Nat) : List Nat := o.dropWhile fun v => !hang f v
def rowP (o : List Nat) (f : Nat) : List Bool := TT (trim o f) f
theorem trim_skip {o : List Nat} {v f : Nat} (h : hang f v = false) : trim (v :: o) f = trim o f := by
  unfold trim
  rw [List.dropWhile_cons_of_pos (by rw [h]; rfl)]
theorem trim_here {o : List Nat} {v f : Nat} (h : hang f v = true) : trim (v :: o) f = v :: o := by
  unfold trim
  rw [List.dropWhile_cons_of_neg (by rw [h]; decide)]
theorem trim_pre {f : Nat} : ∀ (pre o : List Nat), (∀ u ∈ pre, hang f u = false) → trim (pre ++ o) f = trim o f
  | [], _, _ => rfl
  | u :: pre, o, h => by
    rw [List.cons_append, trim_skip (h u List.mem_cons_self)]
    exact trim_pre pre o fun x hx => h x (List.mem_cons_of_mem _ hx)
theorem trim_split {f : Nat} : ∀ o : List Nat, ∃ pre, o = pre ++ trim o f ∧ (∀ u ∈ pre, hang f u = false) ∧ (trim o f = [] ∨ ∃ v t, trim o f = v :: t ∧ hang f v = true)
  | [] => ⟨[], rfl, fun u hu => (by cases hu), .inl rfl⟩
  | v :: o => by
    cases c : hang f v with
    | true =>
      rw [trim_here c]
      exact ⟨[], rfl, fun u hu => (by cases hu), .inr ⟨v, o, rfl, c⟩⟩
    | false =>
      rw [trim_skip c]
      obtain ⟨pre, e, h, k⟩ := trim_split (f := f) o
      refine ⟨v :: pre, by rw [List.cons_append, ← e], fun u hu => ?_, k⟩
      rcases List.mem_cons.mp hu with q | q
      · rw [q]
        exact c
      · exact h u q
theorem Dep.trim {o : List Nat} {f : Nat} (h : Dep o f) : Dep (Ten.trim o f) f := fun v hv hn => by
  obtain ⟨pre, e, hp, _⟩ := trim_split (f := f) o
  by_cases q : v ∈ pre
  · exact hp v q
  · exact h v hv fun z => by
      rw [e] at z
      rcases List.mem_append.mp z with z | z
      · exact q z
      · exact hn z
theorem low_TT (v : Nat) (o : List Nat) (f : Nat) : Diag.low (TT (v :: o) f) = TT o (fixN f v false) := by
  show (TT o _ ++ TT o _).take ((TT o _ ++ TT o _).length / 2) = _
  rw [List.length_append, TT_len, TT_len, ← Nat.two_mul, Nat.mul_div_cancel_left _ (by decide : 0 < 2), ← TT_len o (fixN f v false), List.take_left]
theorem high_TT (v : Nat) (o : List Nat) (f : Nat) : Diag.high (TT (v :: o) f) = TT o (fixN f v true) := by
  show (TT o _ ++ TT o _).drop ((TT o _ ++ TT o _).length / 2) = _
  rw [List.length_append, TT_len, TT_len, ← Nat.two_mul, Nat.mul_div_cancel_left _ (by decide : 0 < 2), ← TT_len o (fixN f v false), List.drop_left]
theorem top_one (b : Bool) : ∀ n, Diag.top n [b] = [b]
  | 0 => rfl
  | n + 1 => by
    unfold Diag.top
    rw [if_neg]
    intro z
    have q : Diag.low [b] = Diag.high [b] := eq_of_beq z
    have q2 := congrArg List.length q
    have a1 : (Diag.low [b]).length = 0 := by cases b <;> rfl
    have a2 : (Diag.high [b]).length = 1 := by cases b <;> rfl
    rw [a1, a2] at q2
    cases q2
theorem TT_ne {v f : Nat} {o : List Nat} (ho : ∀ u ∈ v :: o, u < 10) (hf : f < Full) (hd : Dep (v :: o) f) (h : hang f v = true) : TT o (fixN f v false) ≠ TT o (fixN f v true) := fun z => by
  have hv := ho v List.mem_cons_self
  have q := TT_inj o (fun u hu => ho u (List.mem_cons_of_mem _ hu)) (fixN_lt _ hf hv) (fixN_lt _ hf hv) (hd.fix hf hv false) (hd.fix hf hv true) z
  unfold hang at h
  exact (of_decide_eq_true h) q
theorem top_TT : ∀ (o : List Nat) (n f : Nat), o.length ≤ n → (∀ v ∈ o, v < 10) → f < Full → Dep o f → Diag.top n (TT o f) = TT (trim o f) f
  | [], n, f, _, _, _, _ => top_one _ n
  | v :: o, 0, f, h, _, _, _ => by cases h
  | v :: o, n + 1, f, h, ho, hf, hd => by
    have hv := ho v List.mem_cons_self
    have ho' : ∀ u ∈ o, u < 10 := fun u hu => ho u (List.mem_cons_of_mem _ hu)
    rw [List.length_cons] at h
    unfold Diag.top
    rw [low_TT, high_TT]
    cases c : hang f v with
    | true =>
      rw [if_neg fun z => TT_ne ho hf hd c (eq_of_beq z), trim_here c]
    | false =>
      rw [fix_same hf hv c, fix_same hf hv c, if_pos (by simp), trim_skip c]
      exact top_TT o n f (by omega) ho' hf (hd.skip c)
theorem const_rep : ∀ l : List Bool, Diag.isConstant l = true → ∃ b, l = List.replicate l.length b
  | [], _ => ⟨false, rfl⟩
  | x :: r, h => by
    refine ⟨x, ?_⟩
    have h' : r.all (fun y => y == x) = true := h
    rw [List.eq_replicate_iff]
    refine ⟨rfl, fun y hy => ?_⟩
    rcases List.mem_cons.mp hy with q | q
    · exact q
    · exact eq_of_beq (List.all_eq_true.mp h' y q)
theorem trim_const {o : List Nat} (h : Diag.isOrder o = true) {f : Nat} (hf : f < Full) : trim o f = [] ↔ f = 0 ∨ f = EV := by
  obtain ⟨pre, e, hp, k⟩ := trim_split (f := f) o
  constructor
  · intro z
    refine const_of_none hf fun v hv => hp v ?_
    rw [z, List.append_nil] at e
    rw [← e]
    exact (order_perm.mp h).mem_iff.mpr (by simpa using hv)
  · intro z
    rcases k with k | ⟨v, t, k, kv⟩
    · exact k
    · have hv : v < 10 := ord_lt h v (by rw [e, k]; simp)
      rcases z with z | z
      · rw [z, hang_zero hv] at kv
        cases kv
      · rw [z, hang_EV hv] at kv
        cases kv
theorem row_const {o : List Nat} (h : Diag.isOrder o = true) {f : Nat} (hf : f < Full) : Diag.isConstant (rowP o f) = true ↔ f = 0 ∨ f = EV := by
  rw [← trim_const h hf]
  obtain ⟨pre, e, hp, k⟩ := trim_split (f := f) o
  have hd := (ord_dep h f).trim
  unfold rowP
  rcases k with k | ⟨v, t, k, kv⟩
  · rw [k]
    exact ⟨fun _ => rfl, fun _ => rfl⟩
  · rw [k] at hd ⊢
    have ho : ∀ u ∈ v :: t, u < 10 := fun u hu => ord_lt h u (by rw [e, k]; exact List.mem_append_right _ hu)
    refine ⟨fun z => ?_, fun z => by cases z⟩
    obtain ⟨b, q⟩ := const_rep _ z
    refine absurd ?_ (TT_ne ho hf hd kv)
    have q1 : TT t (fixN f v false) ++ TT t (fixN f v true) = List.replicate (TT (v :: t) f).length b := q
    obtain ⟨_, q3, q4⟩ := List.append_eq_replicate_iff.mp q1
    rw [q3, q4, TT_len, TT_len]
theorem row_inj {o : List Nat} (h : Diag.isOrder o = true) {f g : Nat} (hf : f < Full) (hg : g < Full) (e : rowP o f = rowP o g) : f = g := by
  obtain ⟨p1, e1, _, _⟩ := trim_split (f := f) o
  obtain ⟨p2, e2, _, _⟩ := trim_split (f := g) o
  have l := congrArg List.length e
  unfold rowP at l e
  rw [TT_len, TT_len] at l
  have l2 : (trim o f).length = (trim o g).length := (Nat.pow_right_inj (by decide : 1 < 2)).mp l
  have e3 : trim o f = trim o g := (List.append_inj' (e1.symm.trans e2) l2).2
  have ho : ∀ u ∈ trim o f, u < 10 := fun u hu => ord_lt h u (by rw [e1]; exact List.mem_append_right _ hu)
  have d2 := (ord_dep h g).trim
  rw [← e3] at d2 e
  exact TT_inj _ ho hf hg (ord_dep h f).trim d2 e
theorem top_head {o : List Nat} {f v : Nat} {t : List Nat} (e : trim o f = v :: t) : topV o f = v := by
  obtain ⟨pre, e1, hp, k⟩ := trim_split (f := f) o
  rw [e] at e1
  have hv : hang f v = true := by
    rcases k with k | ⟨v', t', k, kv⟩
    · rw [e] at k
      cases k
    · rw [e] at k
      injection k with k1 k2
      rw [k1]
      exact kv
  unfold topV
  rw [e1, List.find?_append, List.find?_eq_none.mpr fun x hx => by rw [hp x hx]; decide]
  simp [hv]
theorem top_lt {o : List Nat} (h : Diag.isOrder o = true) (f : Nat) : topV o f < 10 := by
  unfold topV
  cases c : o.find? (hang f) with
  | none => decide
  | some v => exact ord_lt h v (List.mem_of_find?_eq_some c)
theorem meetP_lt {o : List Nat} (h : Diag.isOrder o = true) : ∀ (n : Nat) (had : List Nat) (f : Nat), (∀ p ∈ had, p < Full) → f < Full → ∀ p ∈ meetP o n had f, p < Full
  | 0, had, _, hh, _ => hh
  | n + 1, had, f, hh, hf => by
    unfold meetP
    split
    · exact hh
    · refine meetP_lt h n _ _ (meetP_lt h n _ _ (fun p hp => ?_) (fixN_lt _ hf (top_lt h f))) (fixN_lt _ hf (top_lt h f))
      rcases List.mem_append.mp hp with q | q
      · exact hh p q
      · rw [List.mem_singleton] at q
        rw [q]
        exact hf
/-- an order's rest -/
def Rest (o o' : List Nat) : Prop := ∃ pre, o = pre ++ o'
theorem rest_trim {o o' : List Nat} (h : Diag.isOrder o = true) (r : Rest o o') {f : Nat} (hd : Dep o' f) : trim o' f = trim o f := by
  obtain ⟨pre, e⟩ := r
  have hn := ord_nodup h
  rw [e] at hn ⊢
  refine (trim_pre pre o' fun u hu => hd u (ord_lt h u (by rw [e]; exact List.mem_append_left _ hu)) fun z => ?_).symm
  exact (List.nodup_append.mp hn).2.2 u hu u z rfl
theorem rest_top {o o' : List Nat} (h : Diag.isOrder o = true) (r : Rest o o') {f : Nat} (hf : f < Full) (hd : Dep o' f) : Diag.top Diag.VARS (TT o' f) = rowP o f := by
  unfold rowP
  rw [← rest_trim h r hd]
  obtain ⟨pre, e⟩ := r
  refine top_TT o' 10 f ?_ (fun v hv => ord_lt h v (by rw [e]; exact List.mem_append_right _ hv)) hf hd
  have q := ord_len h
  rw [e, List.length_append] at q
  omega
theorem mem_rows {o : List Nat} (h : Diag.isOrder o = true) {had : List Nat} (hh : ∀ p ∈ had, p < Full) {f : Nat} (hf : f < Full) : (had.map (rowP o)).contains (rowP o f) = true ↔ f ∈ had := by
  rw [List.contains_iff_mem, List.mem_map]
  constructor
  · rintro ⟨p, hp, e⟩
    rw [← row_inj h (hh p hp) hf e]
    exact hp
  · exact fun hp => ⟨f, hp, rfl⟩
theorem meet_rows {o : List Nat} (h : Diag.isOrder o = true) : ∀ (n : Nat) (had : List Nat) (f : Nat) (o' : List Nat), Rest o o' → Dep o' f → f < Full → (∀ p ∈ had, p < Full) → Diag.meet n (had.map (rowP o)) (TT o' f) = (meetP o n had f).map (rowP o)
  | 0, _, _, _, _, _, _, _ => rfl
  | n + 1, had, f, o', r, hd, hf, hh => by
    unfold Diag.meet meetP
    simp only [rest_top h r hf hd]
    by_cases c : f = 0 ∨ f = EV ∨ f ∈ had
    · rw [if_pos c, if_pos]
      rcases c with c | c | c
      · exact .inl ((row_const h hf).mpr (.inl c))
      · exact .inl ((row_const h hf).mpr (.inr c))
      · exact .inr ((mem_rows h hh hf).mpr c)
    · rw [if_neg c, if_neg]
      · obtain ⟨pre, e, hp, k⟩ := trim_split (f := f) o
        rcases k with k | ⟨v, t, k, kv⟩
        · exact absurd ((trim_const h hf).mp k) fun z => c (by rcases z with z | z; exact .inl z; exact .inr (.inl z))
        · have hv : v < 10 := ord_lt h v (by rw [e, k]; simp)
          have hd' : Dep (v :: t) f := by
            have q := (ord_dep h f).trim
            rw [k] at q
            exact q
          have rt : Rest o t := ⟨pre ++ [v], by rw [List.append_assoc, List.singleton_append, ← k]; exact e⟩
          have er : rowP o f = TT (v :: t) f := by
            unfold rowP
            rw [k]
          have ea : had.map (rowP o) ++ [rowP o f] = (had ++ [f]).map (rowP o) := by rw [List.map_append]; rfl
          have hh' : ∀ p ∈ had ++ [f], p < Full := fun p hp => by
            rcases List.mem_append.mp hp with q | q
            · exact hh p q
            · rw [List.mem_singleton] at q
              rw [q]
              exact hf
          rw [ea, er, low_TT, high_TT, top_head k, meet_rows h n _ _ t rt (hd'.fix hf hv false) (fixN_lt _ hf hv) hh']
          exact meet_rows h n _ _ t rt (hd'.fix hf hv true) (fixN_lt _ hf hv) (meetP_lt h n _ _ hh' (fixN_lt _ hf hv))
      · rintro (z | z)
        · rcases (row_const h hf).mp z with q | q
          · exact c (.inl q)
          · exact c (.inr (.inl q))
        · exact c (.inr (.inr ((mem_rows h hh hf).mp z)))
/-- the nodes' parts of a function -/
def partsOf (o : List Nat) (f : Nat) : List Nat := meetP o 11 [] f
theorem nodes_rows {o : List Nat} (h : Diag.isOrder o = true) {f : Nat} (hf : f < Full) : Diag.nodesOf o f = (partsOf o f).map (rowP o) := by
  unfold Diag.nodesOf
  rw [row_TT h hf]
  exact meet_rows h 11 [] f o ⟨[], rfl⟩ (ord_dep h f) hf (fun p hp => by cases hp)
def refN (res : List Nat) (f : Nat) : Nat := if f = 0 then 0 else if f = EV then 1 else 2 + res.idxOf f
theorem idx_rows {o : List Nat} (h : Diag.isOrder o = true) {f : Nat} (hf : f < Full) : ∀ res : List Nat, (∀ p ∈ res, p < Full) → (res.map (rowP o)).idxOf (rowP o f) = res.idxOf f
  | [], _ => rfl
  | p :: r, hh => by
    rw [List.map_cons, List.idxOf_cons, List.idxOf_cons, idx_rows h hf r fun x hx => hh x (List.mem_cons_of_mem _ hx)]
    by_cases e : p = f
    · rw [e]
      simp
    · have e2 : ¬ rowP o p = rowP o f := fun z => e (row_inj h (hh p List.mem_cons_self) hf z)
      rw [show (rowP o p == rowP o f) = false by simpa using e2, show (p == f) = false by simpa using e]
theorem ref_rows {o o' : List Nat} (h : Diag.isOrder o = true) (r : Rest o o') {f : Nat} (hf : f < Full) (hd : Dep o' f) {res : List Nat} (hh : ∀ p ∈ res, p < Full) : Diag.refOf (res.map (rowP o)) (TT o' f) = refN res f := by
  unfold Diag.refOf refN
  simp only [rest_top h r hf hd]
  by_cases c : f = 0 ∨ f = EV
  · rw [if_pos ((row_const h hf).mpr c)]
    have e := (trim_const h hf).mpr c
    unfold rowP
    rw [e]
    show (if (f.testBit 0 :: []).headD false = true then 1 else 0) = _
    rcases c with c | c
    · rw [if_pos c, c]
      rfl
    · have e1 : (if EV.testBit 0 = true then 1 else 0) = 1 := by
        rw [EV_bit]
        rfl
      have e2 : (if EV = 0 then 0 else if EV = EV then 1 else 2 + res.idxOf EV) = 1 := by rw [if_neg EV_ne, if_pos rfl]
      rw [c]
      exact e1.trans e2.symm
  · rw [if_neg fun z => c ((row_const h hf).mp z), if_neg fun z => c (.inl z), if_neg fun z => c (.inr z), idx_rows h hf res hh]
theorem parts_no {o : List Nat} : ∀ (n : Nat) (had : List Nat) (f : Nat), (∀ p ∈ had, p ≠ 0 ∧ p ≠ EV) → ∀ p ∈ meetP o n had f, p ≠ 0 ∧ p ≠ EV
  | 0, _, _, hh => hh
  | n + 1, had, f, hh => by
    unfold meetP
    split
    · exact hh
    · rename_i c
      refine parts_no n _ _ (parts_no n _ _ fun p hp => ?_)
      rcases List.mem_append.mp hp with q | q
      · exact hh p q
      · rw [List.mem_singleton] at q
        rw [q]
        exact ⟨fun z => c (.inl z), fun z => c (.inr (.inl z))⟩
theorem parts_lt {o : List Nat} (h : Diag.isOrder o = true) {f : Nat} (hf : f < Full) : ∀ p ∈ partsOf o f, p < Full := meetP_lt h 11 [] f (fun p hp => by cases hp) hf
theorem st_diagram {fs : List Nat} (W : Wf fs) {x : Nat} {o : List Nat} (hx : x < 16) (h : Diag.isOrder o = true) :
    Diag.step fs (.diagram x o) = (fs, ⟨(((partsOf o (Diag.reg fs x)).length : Nat) : Int), [[refN (partsOf o (Diag.reg fs x)) (Diag.reg fs x)],
      (partsOf o (Diag.reg fs x)).flatMap fun p => [topV o p, refN (partsOf o (Diag.reg fs x)) (fixN p (topV o p) false), refN (partsOf o (Diag.reg fs x)) (fixN p (topV o p) true)]]⟩) := by
  have hf := reg_lt W x
  show (fs, if Diag.isReg x = false ∨ Diag.isOrder o = false then Diag.says (-1) else ⟨((Diag.diagram o (Diag.reg fs x)).length : Nat), [[Diag.root o (Diag.reg fs x)], (Diag.diagram o (Diag.reg fs x)).flatMap fun (x : Diag.Node) => [x.var, x.no, x.yes]]⟩) = _
  rw [if_neg (by rw [isReg_t hx, h]; decide)]
  generalize Diag.reg fs x = f at hf
  have hp := parts_lt h hf
  have hn := parts_no (o := o) 11 [] f (fun p hp => by cases hp)
  have ed : Diag.diagram o f = (partsOf o f).map fun p => ⟨topV o p, refN (partsOf o f) (fixN p (topV o p) false), refN (partsOf o f) (fixN p (topV o p) true)⟩ := by
    unfold Diag.diagram
    simp only [nodes_rows h hf]
    rw [List.map_map]
    refine List.map_congr_left fun p hpm => ?_
    have hpf := hp p hpm
    obtain ⟨pre, e, hpre, k⟩ := trim_split (f := p) o
    rcases k with k | ⟨v, t, k, kv⟩
    · have q := hn p hpm
      rcases (trim_const h hpf).mp k with z | z
      · exact absurd z q.1
      · exact absurd z q.2
    · have hv : v < 10 := ord_lt h v (by rw [e, k]; simp)
      have hd' : Dep (v :: t) p := by
        have q := (ord_dep h p).trim
        rw [k] at q
        exact q
      have rt : Rest o t := ⟨pre ++ [v], by rw [List.append_assoc, List.singleton_append, ← k]; exact e⟩
      have er : rowP o p = TT (v :: t) p := by
        unfold rowP
        rw [k]
      have lo := ord_len h
      rw [e, k, List.length_append, List.length_cons] at lo
      have el : o.getD (Diag.levelOf (TT (v :: t) p)) 0 = v := by
        unfold Diag.levelOf
        rw [TT_len, Nat.log2_two_pow, List.length_cons, show Diag.VARS - (t.length + 1) = pre.length by show 10 - _ = _; omega, e, k, List.getD_eq_getElem?_getD]
        simp
      show Diag.Node.mk (o.getD (Diag.levelOf (rowP o p)) 0) _ _ = _
      rw [er, el, low_TT, high_TT, top_head k, ref_rows h rt (fixN_lt _ hpf hv) (hd'.fix hpf hv false) hp, ref_rows h rt (fixN_lt _ hpf hv) (hd'.fix hpf hv true) hp]
  have er : Diag.root o f = refN (partsOf o f) f := by
    unfold Diag.root
    rw [nodes_rows h hf, row_TT h hf]
    exact ref_rows h ⟨[], rfl⟩ hf (ord_dep h f) hp
  rw [er, ed, List.length_map, List.flatMap_map]
theorem no_diagram {fs : List Nat} {x : Nat} {o : List Nat} (h : ¬ (x < 16 ∧ Diag.isOrder o = true)) : Diag.step fs (.diagram x o) = (fs, Diag.says (-1)) := by
  show (fs, if Diag.isReg x = false ∨ Diag.isOrder o = false then Diag.says (-1) else _) = _
  rw [if_pos]
  by_cases c : x < 16
  · refine .inr ?_
    cases e : Diag.isOrder o with
    | false => rfl
    | true => exact absurd ⟨c, e⟩ h
  · exact .inl (isReg_f c)
end Ten
namespace Ten
open PySem PySem.Spec PyProof.Rows L2
/-! Diagram's making and numbers; call_diagram. -/
def dgE (cs ol nl dl : Addr) (x : Nat) : List (Str × V) := [("cases", .ref cs), ("order", .ref ol), ("nodes", .ref nl), ("node_places", .ref dl), ("begins", nV x)]
abbrev dg1 (cs : Addr) : List (Str × V) := [("cases", .ref cs)]
abbrev dg2 (cs ol : Addr) : List (Str × V) := [("cases", .ref cs), ("order", .ref ol)]
abbrev dg3 (cs ol nl : Addr) : List (Str × V) := [("cases", .ref cs), ("order", .ref ol), ("nodes", .ref nl)]
theorem dg_p2 (cs ol : Addr) : putF "order" (.ref ol) (dg1 cs) = dg2 cs ol := put_past (by decide +kernel)
theorem dg_p3 (cs ol nl : Addr) : putF "nodes" (.ref nl) (dg2 cs ol) = dg3 cs ol nl := (put_past (by decide +kernel)).trans (congrArg _ (put_past (by decide +kernel)))
theorem dg_p4 (cs ol nl dl : Addr) : putF "node_places" (.ref dl) (dg3 cs ol nl) = dgF cs ol nl dl := (put_past (by decide +kernel)).trans (congrArg _ ((put_past (by decide +kernel)).trans (congrArg _ (put_past (by decide +kernel)))))
theorem dg_p5 (cs ol nl dl : Addr) (x : Nat) : putF "begins" (nV x) (dgF cs ol nl dl) = dgE cs ol nl dl x := (put_past (by decide +kernel)).trans (congrArg _ ((put_past (by decide +kernel)).trans (congrArg _ ((put_past (by decide +kernel)).trans (congrArg _ (put_past (by decide +kernel)))))))
theorem dgE_nl (cs ol nl dl : Addr) (x : Nat) : (dgE cs ol nl dl x).lookup ("nodes" : Str) = some (.ref nl) := (lk_past (by decide +kernel)).trans ((lk_past (by decide +kernel)).trans lk_here)
theorem dgE_b (cs ol nl dl : Addr) (x : Nat) : (dgE cs ol nl dl x).lookup ("begins" : Str) = some (nV x) := (lk_past (by decide +kernel)).trans ((lk_past (by decide +kernel)).trans ((lk_past (by decide +kernel)).trans ((lk_past (by decide +kernel)).trans lk_here)))
theorem dgE_m (cs ol nl dl : Addr) (x : Nat) {m : Str} (h : notField m ["cases", "order", "nodes", "node_places", "begins"] = true) : (dgE cs ol nl dl x).lookup m = none := no_field h
section
variable {P : Program} {w : World} {K : PySem.W.Frag} {mg : Str → Option Value} {base : Heap} {a : Ad}
/-- behind Diagram.__init__: the nodes listed at ads -/
structure DgEnd (a : Ad) (H' : Hp) (p dx cs ol nl dl : Addr) (o : List Nat) (f x : Nat) (ads : List Addr) : Prop where
  me : H' p = some (.ins a.c_Diagram dx (dgE cs ol nl dl x))
  n : H' nl = some (.lst (ads.map V.ref))
  z : ads.length = (partsOf o f).length
  ok : ∀ (i q : Nat) (ad : Addr), (partsOf o f)[i]? = some q → ads[i]? = some ad → NodeOk H' o (partsOf o f) q ad
  r : RefIs (partsOf o f) f x
def spDgI (a : Ad) : Sp := fun vs H Q _ => ∃ (p dx cs ol : Addr) (o : List Nat) (f : Nat), vs = [.ref p, .ref cs, .ref ol, nV f] ∧ H p = some (.ins a.c_Diagram dx []) ∧ CasesAt a H cs ∧ H ol = some (.lst (nVs o)) ∧ Diag.isOrder o = true ∧ f < Full ∧
  ∀ (H' : Hp) (nl dl : Addr) (x : Nat) (ads : List Addr), DgEnd a H' p dx cs ol nl dl o f x ads → But H H' p → Q .non H'
theorem scDgI : FnScope ["self", "cases", "order", "function"] ["self", "cases", "order", "function"] (defScope s_Diagram_init) := ⟨rfl, rfl, rfl, by decide +kernel, rfl, by decide +kernel, by decide +kernel⟩
theorem ok_dgI (T : Txt K mg a) : FnOk P w K mg base CX0 15 a.f_Diagram_init a.d_Diagram_init ["self", "cases", "order", "function"] (spDgI a) := by
  refine T.Diagram_init.ok scDgI (fun vs H Q E h => ?_) (fun cdv A outer s H vs Q E hr h => ⟨_, pss_cons (ps_fld (pv 0) (pv 1) rfl) (pss_cons (ps_fld (pv 0) (pv 2) rfl) (pss_cons (ps_fld (pv 0) (pe_lst pa_nil) rfl)
    (pss_cons (ps_fld (pv 0) pe_dnewK rfl) (pss_one (ps_fld (pv 0) (pe_meth (pv 0) T.cl_Diagram T.Diagram_place_of.M (ok_place T 11) hr T.Diagram_place_of.b .nil pass0 (pa_cons (pv 3) (pa_cons pe_int pa_nil))) rfl))))), ?_⟩)
  · obtain ⟨p, dx, cs, ol, o, f, rfl, _⟩ := h
    rfl
  · obtain ⟨p, dx, cs, ol, o, f, rfl, hp, C, eo, ho, hf, q⟩ := h
    obtain ⟨dxc, y, nn, c1, c2, c3⟩ := id C
    have n1 : ol ≠ p := ne_of eo hp (by simp)
    have n2 : cs ≠ p := fun z => by
      rw [z, hp] at c1
      have z' : ([] : List (Str × V)) = csF y nn := by injection c1 with c1; injection c1
      cases z'
    refine ⟨_, rfl, _, rfl, p, _, dx, _, rfl, hp, T.cl_Diagram, T.no_Diagram_cases, (by show 0 < 1000; decide), ?_⟩
    refine ⟨_, rfl, _, rfl, p, _, dx, dg1 cs, rfl, upd_same, T.cl_Diagram, T.no_Diagram_order, (by show 1 < 1000; decide), ?_⟩
    refine ⟨(by show 0 ≤ sizeLine; decide), fun nl hnl => ?_⟩
    have nlp : nl ≠ p := fun z => by
      rw [z, upd_same] at hnl
      cases hnl
    refine ⟨_, rfl, p, _, dx, dg2 cs ol, rfl, ?_, T.cl_Diagram, T.no_Diagram_nodes, (by show 2 < 1000; decide), ?_⟩
    · rw [upd_ne (Ne.symm nlp), upd_same, dg_p2]
    intro dl hdl
    have dlp : dl ≠ p := fun z => by
      rw [z, upd_same] at hdl
      cases hdl
    have dln : dl ≠ nl := fun z => by
      rw [upd_ne dlp, z, upd_same] at hdl
      cases hdl
    refine ⟨_, rfl, p, _, dx, dg3 cs ol nl, rfl, ?_, T.cl_Diagram, T.no_Diagram_node_places, (by show 3 < 1000; decide), ?_⟩
    · rw [upd_ne (Ne.symm dlp), upd_same, dg_p3]
    obtain ⟨H1, h1⟩ : ∃ G, upd (upd (upd (upd (upd (upd H p (.ins a.c_Diagram dx (putF "cases" (.ref cs) []))) p (.ins a.c_Diagram dx (putF "order" (.ref ol) (dg1 cs)))) nl (.lst [])) p (.ins a.c_Diagram dx (putF "nodes" (.ref nl) (dg2 cs ol)))) dl (.dK [])) p (.ins a.c_Diagram dx (putF "node_places" (.ref dl) (dg3 cs ol nl))) = G := ⟨_, rfl⟩
    have hnl0 : H nl = none := by
      rw [upd_ne nlp, upd_ne nlp] at hnl
      exact hnl
    have hdl0 : H dl = none := by
      rw [upd_ne dlp, upd_ne dln, upd_ne dlp, upd_ne dlp] at hdl
      exact hdl
    have B1 : But H H1 p := fun b ob e nb => by
      rw [← h1, upd_ne nb, upd_ne (ne_of_none e hdl0), upd_ne nb, upd_ne (ne_of_none e hnl0), upd_ne nb, upd_ne nb]
      exact e
    have e1 : H1 p = some (.ins a.c_Diagram dx (dgF cs ol nl dl)) := by
      rw [← h1, upd_same, dg_p4]
    have C1 : CasesAt a H1 cs := ⟨dxc, y, nn, B1 _ _ c1 n2, B1 _ _ c2 (ne_of c2 hp (by simp)), B1 _ _ c3 (ne_of c3 hp (by simp))⟩
    have D1 : DgAt a H1 p dx cs ol nl dl o [] [] := ⟨e1, C1, B1 _ _ eo n1, by rw [← h1, upd_ne nlp, upd_ne (Ne.symm dln), upd_ne nlp, upd_same]; rfl, by rw [← h1, upd_ne dlp, upd_same]; rfl, rfl⟩
    subst h1
    refine ⟨_, rfl, p, dx, _, rfl, e1, dgF_m cs ol nl dl (by decide +kernel), _, rfl, p, f, 0, dx, cs, ol, nl, dl, o, [], [], rfl, D1, ho, hf, Nat.zero_le _, Nat.le_refl _, fun i v hi _ => absurd hi (Nat.not_lt_zero i), List.nodup_nil, (by decide), fun H2 ads x D2 K2 N2 R2 => ?_⟩
    refine ⟨_, rfl, p, _, dx, _, rfl, D2.me, T.cl_Diagram, T.no_Diagram_begins, (by show 4 < 1000; decide), ?_⟩
    have ep : ∀ {G : Hp}, upd G p (.ins a.c_Diagram dx (putF "begins" (nV x) (dgF cs ol nl dl))) p = some (.ins a.c_Diagram dx (dgE cs ol nl dl x)) := upd_same.trans (by rw [dg_p5])
    refine q _ nl dl x ads ⟨ep, ?_, D2.z, fun i pq ad t1 t2 => ?_, R2⟩ fun b ob e nb => ?_
    · rw [upd_ne nlp]
      exact D2.n
    · obtain ⟨f1, xx, yy, f2, f3, f4⟩ := N2 i pq ad (Nat.zero_le _) t1 t2
      refine ⟨xx, yy, ?_, f3, f4⟩
      rw [upd_ne (ne_of_none e1 f1).symm]
      exact f2
    · rw [upd_ne nb]
      exact K2 _ _ (B1 _ _ e nb) (ne_of_none e hnl0) (ne_of_none e hdl0)
/-! ### node_numbers -/
def spNn (a : Ad) : Sp := fun vs H Q _ => ∃ (p dx nl : Addr) (fs : List (Str × V)) (ads : List Addr) (ts : List (List Nat)), vs = [.ref p] ∧ H p = some (.ins a.c_Diagram dx fs) ∧ fs.lookup ("nodes" : Str) = some (.ref nl) ∧ H nl = some (.lst (ads.map V.ref)) ∧ ads.length = ts.length ∧ ts.length ≤ 4096 ∧
  (∀ (i : Nat) (ad : Addr) (t : List Nat), ads[i]? = some ad → ts[i]? = some t → t.length = 3 ∧ H ad = some (.lst (nVs t))) ∧ ∀ H' q, Same H H' → H q = none → H' q = some (.lst (nVs ts.flatten)) → Q (.ref q) H'
theorem scNn : FnScope ["self", "numbers", "node"] ["self"] (defScope s_Diagram_node_numbers) := ⟨rfl, rfl, rfl, by decide +kernel, rfl, by decide +kernel, by decide +kernel⟩
theorem flat_len : ∀ ts : List (List Nat), (∀ t ∈ ts, t.length = 3) → ts.flatten.length = 3 * ts.length
  | [], _ => rfl
  | t :: r, h => by
    rw [List.flatten_cons, List.length_append, flat_len r fun x hx => h x (List.mem_cons_of_mem _ hx), h t List.mem_cons_self, List.length_cons]
    omega
theorem ok_nn (T : Txt K mg a) : FnOk P w K mg base CX0 1 a.f_Diagram_node_numbers a.d_Diagram_node_numbers ["self"] (spNn a) := by
  refine T.Diagram_node_numbers.F.ok scNn (fun vs H Q E h => ?_) (fun cdv A outer s H vs Q E hr h => ⟨_, pss_cons (ps_set (i := 1) scNn.nd rfl (.inl rfl) (pe_lst pa_nil))
    (pss_cons (ps_for PassesOwn.never rfl (pi_list (pe_fld (pv 0) rfl)) (pg_name (i := 2) scNn.nd rfl (.inl rfl))
      (pss_one (ps_expr (pe_bm PySem.F.plainAttrs_list PySem.F.slot_list_extend PySem.F.type_list_extend mt_extend (pv 1) (pa_cons (pv 2) pa_nil)))))
    (pss_one (ps_ret (pv 1)))), ?_⟩)
  · obtain ⟨p, dx, nl, fs, ads, ts, rfl, _⟩ := h
    rfl
  · obtain ⟨p, dx, nl, fs, ads, ts, rfl, hp, lk, hn, hz, hb, hc, q⟩ := h
    refine ⟨(by show 0 ≤ sizeLine; decide), fun l hl => ?_⟩
    have S0 : Same H _ := Same.upd (o := .lst []) hl
    refine ⟨_, rfl, p, _, dx, _, _, rfl, S0 _ _ hp, T.cl_Diagram, T.no_Diagram_nodes, lk, nl, rfl, ⟨_, SqL.of (S0 _ _ hn)⟩, ?_⟩
    refine for_list (K := K) (a := nl) (xs := ads.map V.ref) (fun i σ H' => Same H H' ∧ H' l = some (.lst (nVs (ts.take i).flatten)) ∧ ∃ v : Option V, σ = [some (.ref p), some (.ref l), v]) ⟨S0, upd_same, none, rfl⟩ (fun i σ H' _ ⟨S1, _, _⟩ => SqL.of (S1 _ _ hn)) ?_ ?_
    · rintro i x σ H' hi ⟨S1, el, v, rfl⟩
      rw [List.getElem?_map] at hi
      cases ha : ads[i]? with
      | none =>
        rw [ha] at hi
        cases hi
      | some ad =>
        rw [ha] at hi
        cases hi
        have hi2 : i < ts.length := by
          rw [← hz]
          exact (List.getElem?_eq_some_iff.mp ha).1
        have et : ts[i]? = some ts[i] := List.getElem?_eq_getElem hi2
        obtain ⟨l3, e3⟩ := hc i ad _ ha et
        have hlen : (ts.take i).flatten.length = 3 * (ts.take i).length := flat_len _ fun t ht => by
          obtain ⟨j, hj, ej⟩ := List.getElem_of_mem ht
          have hj' : j < ts.length := by
            rw [List.length_take] at hj
            omega
          have hj2 : j < ads.length := by omega
          refine (hc j ads[j] t (List.getElem?_eq_getElem hj2) ?_).1
          rw [List.getElem?_eq_getElem hj', ← ej, List.getElem_take]
        refine ⟨_, rfl, .inl ⟨rfl, _, SqL.of el⟩, _, rfl, l, ad, _, _, rfl, rfl, el, S1 _ _ e3, ?_, fun b ob e => ?_, ?_, some (.ref ad), rfl⟩
        · rw [nVs_len, nVs_len, hlen, l3, sizeLine_eq, List.length_take]
          omega
        · rw [upd_ne (ne_of_none e hl)]
          exact S1 _ _ e
        · rw [upd_same, nVs_app, List.take_add_one, et, List.flatten_append]
          simp
    · rintro σ H' ⟨S1, el, v, rfl⟩
      rw [List.length_map, hz, List.take_length] at el
      exact ⟨_, rfl, q _ _ S1 hl el⟩
end
end Ten
namespace Ten
open PySem PySem.Spec PyProof.Rows L2
/-! call_diagram. -/
theorem sh_two (n : Int) (l r : List Nat) : shV ⟨n, [l, r]⟩ = .int n :: nV l.length :: (nVs l ++ nV r.length :: nVs r) := by
  show (n :: [l, r].flatMap fun (l : List Nat) => (l.length : Int) :: l.map fun (n : Nat) => (n : Int)).map V.int = _
  rw [nVs_ints, nVs_ints]
  simp
theorem sh_one (n : Int) (l : List Nat) : shV ⟨n, [l]⟩ = .int n :: nV l.length :: nVs l := by
  show (n :: [l].flatMap fun (l : List Nat) => (l.length : Int) :: l.map fun (n : Nat) => (n : Int)).map V.int = _
  rw [nVs_ints]
  simp
section
variable {P : Program} {w : World} {K : PySem.W.Frag} {mg : Str → Option Value} {base : Heap} {a : Ad}
def spDiag (a : Ad) (K : PySem.W.Frag) : Sp := fun vs H Q E => ∃ (st g ol : Addr) (fs : List Nat) (x : Nat) (o : List Nat), vs = [.ref st, .ref g] ∧ StateAt a H st fs ∧ Wf fs ∧ H g = some (.lst [nV x, .ref ol]) ∧ H ol = some (.lst (nVs o)) ∧ CallEnds a K H st fs (Diag.step fs (.diagram x o)) Q E
theorem scKdiag : FnScope ["state", "given", "a", "order", "diagram"] ["state", "given"] (defScope s_call_diagram) := ⟨rfl, rfl, rfl, by decide +kernel, rfl, by decide +kernel, by decide +kernel⟩
theorem ok_kdiagram (T : Txt K mg a) : FnOk P w K mg base (L2.CX P w) 17 a.f_call_diagram a.d_call_diagram ["state", "given"] (spDiag a K) := by
  refine T.call_diagram.F.okX scKdiag (fun vs H Q E h => ?_) (fun cdv A outer s H vs Q E hr h => ⟨_, pss_cons (ps_asg (pv 1) (pg_unl rfl (pgs_cons (pg_name (i := 2) scKdiag.nd rfl (.inl rfl)) (pgs_cons (pg_name (i := 3) scKdiag.nd rfl (.inl rfl)) pgs_nil))))
    (pss_cons (ps_expr (pe_call (ok_regs T) (hr.mono (by decide)) rfl T.check_registers.g T.check_registers.F.kp T.check_registers.b .nil (passR (takes_of rfl rfl rfl rfl)) (pa_cons (pe_lst (pa_cons (pv 2) pa_nil)) pa_nil)))
    (pss_cons (ps_if (pt_not (pt_val (pe_call (ok_ord T) (hr.mono (by decide)) rfl T.is_order.g T.is_order.F.kp T.is_order.b .nil pass0 (pa_cons (pv 3) pa_nil)))) (pss_one (ps_raise rfl (takes_of rfl rfl rfl rfl) (pmk_x T.x_OutOfRange (ok_out T) (hr.mono (by decide)) T.OutOfRange_init_b pass0 rfl))) pss_nil)
    (pss_cons (ps_set (i := 4) scKdiag.nd rfl (.inl rfl) (pe_make T.mk_Diagram (ok_dgI T) hr rfl T.g_Diagram T.Diagram_init_b .nil pass0 (pa_cons (pe_fld (pv 0) rfl) (pa_cons (pv 3) (pa_cons (pe_ix ix_list (pe_fld (pv 0) rfl) (pv 2) (fun _ _ => rfl)) pa_nil)))))
    (pss_one (ps_ret (pe_op op_cat (pe_op op_cat (pe_lst (pa_cons (pe_callB call_len_seq (by rfl) T.b_len PySem.boot_len (pa_cons (pe_fld (pv 4) rfl) pa_nil)) pa_nil))
      (pe_call (ok_wl T) (hr.mono (by decide)) rfl T.with_length.g T.with_length.F.kp T.with_length.b .nil pass0 (pa_cons (pe_lst (pa_cons (pe_fld (pv 4) rfl) pa_nil)) pa_nil)))
      (pe_call (ok_wl T) (hr.mono (by decide)) rfl T.with_length.g T.with_length.F.kp T.with_length.b .nil pass0 (pa_cons (pe_meth0 (pv 4) T.cl_Diagram T.Diagram_node_numbers.M (ok_nn T) (hr.mono (by decide)) T.Diagram_node_numbers.b .nil pass0) pa_nil))))))))
    , ?_⟩)
  · obtain ⟨st, g, ol, fs, x, o, rfl, _⟩ := h
    rfl
  · obtain ⟨st, g, ol, fs, x, o, rfl, S, W, hg, eo, ends⟩ := h
    refine ⟨_, rfl, g, _, rfl, SqL.of hg, rfl, _, _, rfl, _, _, rfl, rfl, ?_⟩
    refine ⟨_, rfl, (by show 1 ≤ sizeLine; decide), fun l hl => ⟨l, [x], rfl, SqL.of upd_same, fun ok => ?_, fun bad => ?_⟩⟩
    · rw [regs1] at ok
      have S1 : Same H (upd H l (.lst [nV x])) := Same.upd hl
      refine ⟨_, rfl, ol, o, rfl, SqL.of (S1 _ _ eo), fun H2 S2 => ⟨_, rfl, ?_⟩⟩
      have S3 : Same H H2 := S1.trans S2
      cases ho : Diag.isOrder o with
      | false =>
        refine iteT ?_
        exact (ends.no (no_diagram fun z => by rw [ho] at z; cases z.2) S3).at (σ := []) T.x_OutOfRange
      | true =>
        refine iteF ?_
        have St := S.same S3
        obtain ⟨hz, dx, cs, fl, e1, C, e3⟩ := id St
        refine ⟨_, rfl, st, _, dx, _, _, rfl, e1, T.cl_State, T.no_State_cases, stF_cs cs fl, _, rfl, rd_regV T rfl rfl St ok ?_⟩
        intro p dd hp hd ne
        have S4 : Same H2 (upd (upd H2 dd (.own p)) p (.ins a.c_Diagram dd [])) := Same.new (Same.upd hd) (by rw [upd_ne (Ne.symm ne)]; exact hp)
        have hf := reg_lt W x
        refine ⟨p, dd, cs, ol, o, _, rfl, upd_same, C.same S4, S4 _ _ (S3 _ _ eo), ho, hf, fun H3 nl dl y ads D B => ⟨rfl, ?_⟩⟩
        have S5 : Same H2 H3 := fun b ob e => B _ _ (S4 _ _ e) (ne_of_none e hp)
        have S6 : Same H H3 := S3.trans S5
        have lads := D.z
        have nod : (partsOf o (Diag.reg fs x)).Nodup := meetP_nodup o 11 [] _ List.nodup_nil
        have bound : (partsOf o (Diag.reg fs x)).length ≤ 2048 := by
          have q := meetP_len o 11 [] (Diag.reg fs x)
          have q2 : (partsOf o (Diag.reg fs x)).length + 1 ≤ 0 + 2 ^ 11 := q
          omega
        refine ⟨_, rfl, p, _, dd, _, _, rfl, D.me, T.cl_Diagram, T.no_Diagram_nodes, dgE_nl cs ol nl dl y, nl, _, rfl, .inl (SqL.of D.n), (by show 1 ≤ sizeLine; decide), fun q1 h1 => ?_⟩
        have S7 : Same H3 _ := Same.upd (o := .lst [V.int ((ads.map V.ref).length : Nat)]) h1
        refine ⟨_, rfl, p, _, dd, _, _, rfl, S7 _ _ D.me, T.cl_Diagram, T.no_Diagram_begins, dgE_b cs ol nl dl y, (by show 1 ≤ sizeLine; decide), fun q2 h2 => ?_⟩
        have S8 := Same.new S7 (o := .lst [nV y]) h2
        refine ⟨q2, _, rfl, upd_same, (by show 1 < 16000000; decide), fun H6 q3 S9 h3 x3 => ?_⟩
        have S10 : Same H3 H6 := Same.trans S8 S9
        refine ⟨q1, q3, _, _, rfl, rfl, S9 _ _ (Same.upd h2 _ _ upd_same), x3, (by show 1 + 2 ≤ sizeLine; decide), fun q4 h4 => ?_⟩
        have S11 := Same.new S10 (o := .lst ([V.int ((ads.map V.ref).length : Nat)] ++ (V.int (([nV y] : List V).length : Nat) :: [nV y]))) h4
        let tr : Nat → List Nat := fun z => [topV o z, refN (partsOf o (Diag.reg fs x)) (fixN z (topV o z) false), refN (partsOf o (Diag.reg fs x)) (fixN z (topV o z) true)]
        refine ⟨_, rfl, p, dd, _, rfl, S11 _ _ D.me, dgE_m cs ol nl dl y (by decide +kernel), p, dd, nl, _, ads, (partsOf o (Diag.reg fs x)).map tr, rfl, S11 _ _ D.me, dgE_nl cs ol nl dl y, S11 _ _ D.n, (by rw [List.length_map]; exact lads), (by rw [List.length_map]; omega), fun i ad t ea et => ?_, fun H8 q5 S12 h5 x5 => ?_⟩
        · rw [List.getElem?_map] at et
          cases eq : (partsOf o (Diag.reg fs x))[i]? with
          | none =>
            rw [eq] at et
            cases et
          | some z =>
            rw [eq] at et
            obtain rfl : tr z = t := Option.some.inj et
            obtain ⟨u, v, t1, t2, t3⟩ := D.ok i z ad eq ea
            have r1 : u = refN (partsOf o (Diag.reg fs x)) (fixN z (topV o z) false) := t2.eq nod
            have r2 : v = refN (partsOf o (Diag.reg fs x)) (fixN z (topV o z) true) := t3.eq nod
            rw [r1, r2] at t1
            exact ⟨rfl, S11 _ _ t1⟩
        · have lf : ((partsOf o (Diag.reg fs x)).map tr).flatten.length = 3 * (partsOf o (Diag.reg fs x)).length := by
            rw [flat_len _ fun t ht => by obtain ⟨z, _, rfl⟩ := List.mem_map.mp ht; rfl, List.length_map]
          refine ⟨q5, _, rfl, x5, (by rw [nVs_len, lf]; omega), fun H9 q6 S13 h6 x6 => ?_⟩
          refine ⟨q4, q6, _, _, rfl, rfl, S13 _ _ (S12 _ _ upd_same), x6, ?_, fun q7 h7 => ?_⟩
          · simp only [List.length_append, List.length_cons, List.length_nil, nVs_len, lf, sizeLine_eq]
            omega
          · have S14 : Same H H9 := Same.trans S6 (Same.trans S11 (Same.trans S12 S13))
            refine ends.told S (st_diagram W ok ho) (Same.new S14 h7) (Same.free S14 h7) ?_
            rw [upd_same]
            have ry : y = refN (partsOf o (Diag.reg fs x)) (Diag.reg fs x) := D.r.eq nod
            have fl2 : ((partsOf o (Diag.reg fs x)).map tr).flatten = (partsOf o (Diag.reg fs x)).flatMap tr := (List.flatMap_def ..).symm
            rw [sh_two, fl2, List.length_map, lads, ry, nVs_len]
            rfl
    · rw [regs1] at bad
      exact ends.no (no_diagram fun z => bad z.1) (Same.upd hl)
end
end Ten
namespace Ten
open PySem PySem.Spec PyProof.Rows L2 LamX
/-! A lambda of one parameter, called by a built-in function: its context, its entry, its call. -/
/-- its names: the parameter x, captured ones, globals -/
structure Lam1 (x : Str) (out sc : Scope) : Prop where
  kind : sc.kind = .function
  co : sc.isCoroutine = false
  gen : sc.isGenerator = false
  cellNo : ∀ y ∈ sc.names, y.2 ≠ .cell
  own : ∀ y ∈ sc.names, y.2 = .local → y.1 = x
  par : sc.names.lookup x = some .local
  free : ∀ y ∈ sc.names, y.2 = .free → out.names.lookup y.1 = some .cell
def lam1B (x : Str) (out sc : Scope) : Bool :=
  decide (sc.kind = .function) && (!sc.isCoroutine && (!sc.isGenerator && (decide (sc.names.lookup x = some .local) && sc.names.all fun y => !decide (y.2 = .cell) && ((!decide (y.2 = .local) || decide (y.1 = x)) && (!decide (y.2 = .free) || decide (out.names.lookup y.1 = some .cell))))))
theorem lam1_by {x : Str} {out sc : Scope} (h : lam1B x out sc = true) : Lam1 x out sc := by
  unfold lam1B at h
  simp only [Bool.and_eq_true, Bool.or_eq_true, Bool.not_eq_true', decide_eq_true_eq, decide_eq_false_iff_not, List.all_eq_true] at h
  obtain ⟨h1, h2, h3, h4, h5⟩ := h
  exact ⟨h1, h2, h3, fun y hy => (h5 y hy).1, fun y hy e => (h5 y hy).2.1.elim (fun z => absurd e z) id, h4, fun y hy e => (h5 y hy).2.2.elim (fun z => absurd e z) id⟩
/-- the context of its body, entered at s from the frames of X -/
def lam1 (X : Cx) (A : Around) (s : Shared) (H : Hp) (x : Str) (sc : Scope) (f c' : Addr) : Cx :=
  { lamCx X A X.stack s H (fun _ _ _ => False) sc f c' with N := x :: X.N, xe := fun _ _ => False }
section
variable {X : Cx} {pins : List (Addr × Obj)} {σ : L2.St} {H : Hp} {s : Shared} {x : Str} {sc : Scope}
theorem Lam1.has (L : Lam1 x X.env.scope sc) (ok : X.Ok) : ∀ y ∈ sc.names, y.2 = .free → ∃ c, X.env.cells.lookup y.1 = some c := fun y hy e => ok.has _ (.inl (L.free y hy e))
theorem lam1_cells (L : Lam1 x X.env.scope sc) (ok : X.Ok) {y : Str} {c : Addr} (e : (cloFrom X.env.cells sc.names []).lookup y = some c) : X.env.cells.lookup y = some c := by
  rcases cloFrom_mem (PySem.mem_of_lookup e) with z | ⟨z1, z2⟩
  · cases z
  · obtain ⟨d, hd⟩ := L.has ok _ z1 rfl
    have hd' : X.env.cells.lookup y = some d := hd
    have q : c = d := by
      rw [z2, hd']
      rfl
    rw [q]
    exact hd'
theorem lam1_look {y : Str} (hl : sc.names.lookup y = some .free) : ∃ c, (cloFrom X.env.cells sc.names []).lookup y = some c :=
  mem_lookup (cloFrom_has (cells := X.env.cells) (acc := []) (show (y, NameKind.free) ∈ sc.names from PySem.mem_of_lookup hl))
theorem lam1_in {A : Around} {f c' : Addr} {v : V} {u : Value} {h₁ : Heap} {tk : Nat} (I : Inv X pins σ H s) (L : Lam1 x X.env.scope sc) (hx : x ∉ X.N) (hA : A.frames = some X.stack) (hd : A.handled = none) (r : RelV v u)
    (hns : h₁.Ns s.heap.objs.size fun y => ([(x, u)] : List (Str × Value)).reverse.lookup y) (kp : ∀ b o, s.heap.get? b = some o → h₁.get? b = some o) :
    Inv (lam1 X A s H x sc f c') [] (some v :: σ) H { s with heap := h₁, toks := tk } := by
  have e0 := I.env0
  have cm : ∀ {y : Str} {c : Addr}, (cloFrom X.env.cells sc.names []).lookup y = some c → X.env.cells.lookup y = some c := lam1_cells L I.ok
  have cellK : ∀ {c : Addr} {w : Option Value}, s.heap.IsCell c w → h₁.IsCell c w := fun ⟨o, ho, hd⟩ => ⟨o, kp _ _ ho, hd⟩
  have noA : ∀ b : Addr, b ∉ (lam1 X A s H x sc f c').ex := fun b z => absurd (show b ∈ ([] : List Addr) from z) (by simp)
  have ok : (lam1 X A s H x sc f c').Ok := {
    mod := e0.mod
    kind := L.kind
    glob := rfl
    blt := rfl
    above := Nat.le_refl _
    inj := fun y z c e1 e2 => I.ok.inj y z c (cm e1) (cm e2)
    has := fun y hy => by
      have hy' : sc.names.lookup y = some .cell ∨ sc.names.lookup y = some .free := hy
      rcases hy' with k | k
      · exact absurd rfl (L.cellNo _ (PySem.mem_of_lookup k))
      · exact lam1_look k
    cab := fun y c z _ => by
      have z' : false = true := z
      cases z'
    hd := fun _ => hd
    frames := Around.frames_deeper hA
    stk := .inr ⟨rfl, rfl⟩
    exf := fun b z => absurd z (noA b)
    bs := e0.bs
    bsz := e0.bsz
    noex := fun b _ _ => noA b
    exfs := fun b z => absurd z (noA b)
    funs := e0.funs
    frf := e0.frf }
  refine ⟨ok, rfl, e0.bare, Un.kept kp, ⟨_, hns, fun i y w e1 e2 e3 => ?_⟩, fun y c e => ?_, e0.hok.fresh (Nat.le_refl _), fun y c e => I.freeC y c (cm e), fun q hq => absurd (show q ∈ ([] : List (Addr × Obj)) ++ [] from hq) (by simp), e0.hok.kept kp, ?_⟩
  · have e1' : (x :: X.N)[i]? = some y := e1
    have e3' : Vis sc y := e3
    cases i with
    | zero =>
      rw [List.getElem?_cons_zero] at e1' e2
      cases e1'
      cases e2
      refine ⟨u, r, .inl ⟨L.par, ?_⟩⟩
      show ([(x, u)] : List (Str × Value)).lookup x = some u
      simp [List.lookup]
    | succ i =>
      rw [List.getElem?_cons_succ] at e1' e2
      have ny : y ≠ x := fun z => hx (z ▸ List.mem_of_getElem? e1')
      rcases e3' with k | k | k
      · exact absurd (L.own _ (PySem.mem_of_lookup k) rfl) ny
      · exact absurd rfl (L.cellNo _ (PySem.mem_of_lookup k))
      · obtain ⟨m, hn, hl⟩ := I.loc
        have oc := L.free _ (PySem.mem_of_lookup k) rfl
        obtain ⟨w', rw', q⟩ := hl i y w e1' e2 (.inr (.inl oc))
        obtain ⟨c2, h2⟩ := lam1_look (X := X) k
        refine ⟨w', rw', .inr ⟨.inr k, c2, h2, ?_⟩⟩
        rcases q with ⟨k', _⟩ | ⟨_, c3, e', z⟩
        · have k2 : X.env.scope.names.lookup y = some .local := k'
          have k3 : X.env.scope.names.lookup y = some .cell := oc
          rw [k2] at k3
          cases k3
        · rw [cm h2] at e'
          cases e'
          exact cellK z
  · obtain ⟨w, z⟩ := I.cell y c (cm e)
    exact ⟨w, cellK z⟩
  · show σ.length + 1 = X.N.length + 1
    rw [I.len]
/-- what stands at a lambda's address -/
abbrev lamO (X : Cx) (sc : Scope) (params : Arguments) (body : Expr) (pm ctv : Value) (c' : Addr) : Obj := PySem.W.kla_obj "<lambda>" (X.env.qual ++ "<lambda>") params body sc (cloFrom X.env.cells sc.names []) pm c' ctv
/-- the lambda called with one argument, where nothing is raised -/
theorem lam1_call {A : Around} {k : Nat} {f c' : Addr} {v : V} {u : Value} {params : Arguments} {body : Expr} {pm ctv : Value} {tb : TE} {Q : VK} {E : Value → Shared → Prop} (I : Inv X pins σ H s) (L : Lam1 x X.env.scope sc) (hx : x ∉ X.N) (hA : A.frames = some X.stack) (hr : Room (k + 1) A)
    (r : RelV v u) (hf : s.heap.get? f = some (lamO X sc params body pm ctv c')) (hc : H c' = some (CodeO c' (X.env.qual ++ "<lambda>")))
    (hbind : bindArgs (PySem.W.kla_fn "<lambda>" (X.env.qual ++ "<lambda>") params body sc (cloFrom X.env.cells sc.names []) pm (.ref c') ctv) ⟨[u], []⟩ = pure [(x, u)])
    (hbody : PE (lam1 X A s H x sc f c') body tb) (h : tb (some v :: σ) H Q) :
    wpAny (model X.prog X.w) A (call (.ref f) [u]) (EP X pins σ Q) E s := by
  obtain ⟨⟨oc, vs, t, hoc, hdc, hvc⟩, _, _⟩ := I.hok c' _ hc
  have rc : codeAny (model X.prog X.w) A (.call (.ref f) ⟨[u], []⟩) (fun res s' => match res with | .ok (.ret z) => CE X.stack X.prog X.w H s Q z s' | _ => False) s := by
    refine PySem.W.kla_callFunE hr.depth hf rfl L.co L.gen rfl ⟨c', oc, vs, t, rfl, hoc, hdc, hvc⟩ ?_
    rw [hbind]
    refine wpAny_pure (wpAny_newFunctionEnv (fun y hy => L.cellNo y hy) (fun y hy => ?_) (fun h₁ hns hsb => ⟨I.nolimit.fresh _ hsb, ?_⟩) L.kind)
    · rw [List.mem_singleton.mp hy]
      exact L.par
    · show codeAny _ _ (.expr body (lamEnv X sc s.heap.objs.size f c')) _ _
      have kp : ∀ b o, s.heap.get? b = some o → h₁.get? b = some o := fun b o e => hsb.extBut b o (Nat.ne_of_lt (Heap.lt_size e)) (Heap.get?_push_of_some _ e)
      have J := lam1_in (tk := s.toks + ([(x, u)] : List (Str × Value)).length) (f := f) (c' := c') I L hx hA hr.hd r hns kp
      refine PySem.W.kla_codeExpr (wpAny_mono (hbody.run [] _ _ H Q J h) (fun z s' hq => ?_) fun e s' hq => False.elim hq)
      obtain ⟨w', H', J', rv, q⟩ := hq
      exact ⟨w', H', J'.os, J'.bare, J'.base, J'.hok, rv, q⟩
  refine wpAny_call (codeAny_mono rc fun res s' hq => ?_)
  cases res with
  | error e => exact False.elim hq
  | ok fl =>
    cases fl with
    | ret z => exact I.after hq
    | next => exact False.elim hq
    | brk => exact False.elim hq
    | cont => exact False.elim hq
end
end Ten
namespace Ten
open PySem PySem.Spec PyProof.Rows L2 LamX
/-! min of a list by a key that changes nothing: the first of the items with the least key. -/
/-- j is the place of the first item with the least key -/
def FirstLeast (kf : Nat → Nat) (n j : Nat) : Prop := ∀ i, i < n → kf j ≤ kf i ∧ (i < j → kf j < kf i)
/-- an address that is new to a context -/
structure Apart (X : Cx) (pins : List (Addr × Obj)) (b : Addr) : Prop where
  e : X.s_0.heap.objs.size ≤ b
  l : b ≠ X.env.locals
  c : ∀ y d, X.env.cells.lookup y = some d → d ≠ b
  p : ∀ q ∈ X.pn ++ pins, q.1 ≠ b
  f : b ∉ X.fs
section
variable {X : Cx} {pins : List (Addr × Obj)} {σ : L2.St} {H : Hp} {s : Shared}
theorem apart_new {b : Addr} (I : Inv X pins σ H s) (h : s.heap.objs.size ≤ b) : Apart X pins b := by
  have lt : ∀ {d : Addr} {o : Obj}, s.heap.get? d = some o → d ≠ b := fun e z => by
    rw [z] at e
    exact Nat.lt_irrefl _ (Nat.lt_of_lt_of_le (Heap.lt_size e) h)
  refine ⟨Nat.le_trans I.sz h, fun z => ?_, fun y d e => ?_, fun q hq => lt (I.pin q hq).1, I.nofs h⟩
  · have q := I.lt
    rw [← z] at q
    exact Nat.lt_irrefl _ (Nat.lt_of_lt_of_le q h)
  · obtain ⟨v, o, ho, _⟩ := I.cell y d e
    exact lt ho
/-- the state list of the walk, as it stands -/
theorem two_at {S : Addr} {vb : V} {k : Nat} {HS : Hp} (I : Inv X pins σ HS s) (e : HS S = some (.lst [vb, nV k])) : ∃ (ub : Value) (tb : Tok) (n : Nat), RelV vb ub ∧ s.heap.get? S = some { cls := .type "list", data := .seq #[ub, .int (k : Int) tb] n } := by
  obtain ⟨_, its, n, r, _, g⟩ := I.lstM e
  cases r with
  | cons r1 r' =>
    cases r' with
    | cons r2 r3 =>
      cases r3
      obtain ⟨t, rfl⟩ := r2
      exact ⟨_, t, n, r1, g⟩
theorem min_loop {A : Around} {l f it S : Addr} {xs : List V} {kf : Nat → Nat} {R : Result → Shared → Prop} (hh : A.handled = none) (hl : H l = some (.lst xs)) (hS : H S = none) (nl : l ≠ it) (nS : S ≠ it) (ap : Apart X pins it) (hit0 : H it = none)
    (turn : ∀ (i : Nat) (v : V) (u : Value), xs[i]? = some v → RelV v u → ∀ (pins' : List (Addr × Obj)) (H' : Hp) (s' : Shared), (∀ p ∈ pins, p ∈ pins') → Same H H' → Inv X pins' σ H' s' →
      wpAny (model X.prog X.w) A.in1 (call (.ref f) [u]) (EP X pins' σ fun y H2 => y = nV (kf i) ∧ H2 = H') (fun _ _ => False) s')
    (fin : ∀ (i : Nat) (v : V) (u : Value) (s' : Shared), xs[i]? = some v → FirstLeast kf xs.length i → RelV v u → Inv X pins σ (upd H S (.lst [])) s' → R (.ok (.ret u)) s') :
    ∀ (r j i : Nat) (s : Shared) (vb : V), xs.length - (j + 1) = r → j + 1 ≤ xs.length → Inv X pins σ (upd H S (.lst [vb, nV (kf i)])) s → s.heap.IsListIter it l (j + 1) → xs[i]? = some vb → i ≤ j →
      (∀ j', j' ≤ j → kf i ≤ kf j' ∧ (j' < i → kf i < kf j')) → codeAny (model X.prog X.w) A (.builtin "min.loop" ⟨[.ref it, .ref f, .ref S], []⟩) R s := by
  have nm : (toString "min" ++ toString ".loop" : String) = "min.loop" := by decide
  have sq : ∀ {o : HO}, SqL X.K (upd H S o) l xs := fun {o} => SqL.of (by
    rw [upd_ne (ne_of_none hl hS)]
    exact hl)
  have itn : ∀ {o : HO}, upd H S o it = none := fun {o} => by
    rw [upd_ne (Ne.symm nS)]
    exact hit0
  intro r
  induction r with
  | zero =>
    intro j i s vb hr hj I hit hvb hij hb
    obtain ⟨ub, tb, n, rb, gS⟩ := two_at I upd_same
    obtain ⟨its, rv, pl, _⟩ := I.list sq
    have zl := rv.length
    have W := Walks.list (prog := X.prog) (w := X.w) (A := A.in1) hh it l nl its.toArray
    refine codeAny_builtin PySem.F.entry_min_loop ?_
    rw [Around.under_plainId PySem.F.plain_min_loop _]
    show wpAny _ A.in1 (seqItems? (.ref S) >>= _) _ _ _
    refine wpAny_bind (wpAny_seqItems gS rfl ?_)
    show wpAny _ A.in1 (tryCatch (pyNext (.ref it)) _ >>= _) _ _ _
    refine wpAny_bind (wpAny_tryCatch (W.done _ _ _ ⟨by rw [List.size_toArray, ← zl, show xs.length = j + 1 by omega]; exact hit, pl.isList⟩ fun h' tk' hk => ?_))
    have I2 : Inv X pins σ (upd H S (.lst [vb, nV (kf i)])) { s with heap := h', toks := tk' } := I.turned (fun b o nb e => hk b o (by simpa using nb) e) itn ap.l (.inr ap.e) ap.c ap.p
    obtain ⟨ub2, tb2, n2, rb2, gS2⟩ := two_at I2 upd_same
    have gS3 := hk S _ (by simpa using nS) gS
    have I3 := I2.lset (l := S) (xs := [vb, nV (kf i)]) (ys := []) (its' := []) (f := fun _ => #[]) (t' := tk') upd_same (by simpa using gS3) rfl .nil (Nat.zero_le _)
    show wpAny _ A.in1 (updateSeq S (fun _ => #[]) >>= _) _ _ _
    refine wpAny_bind (wpAny_updateSeq gS3 rfl (wpAny_bind (wpAny_letGo (wpAny_pure ?_))))
    refine fin i vb ub _ hvb (fun j' hj' => hb j' (by omega)) rb ?_
    have e2 : upd (upd H S (.lst [vb, nV (kf i)])) S (.lst []) = upd H S (.lst []) := by
      funext b
      by_cases q : b = S
      · rw [q, upd_same, upd_same]
      · rw [upd_ne q, upd_ne q, upd_ne q]
    rw [e2] at I3
    exact I3
  | succ r ih =>
    intro j i s vb hr hj I hit hvb hij hb
    have hlt : j + 1 < xs.length := by omega
    obtain ⟨ub, tb, n, rb, gS⟩ := two_at I upd_same
    obtain ⟨its, rv, pl, _⟩ := I.list sq
    have zl := rv.length
    have W := Walks.list (prog := X.prog) (w := X.w) (A := A.in1) hh it l nl its.toArray
    refine codeAny_builtin PySem.F.entry_min_loop ?_
    rw [Around.under_plainId PySem.F.plain_min_loop _]
    show wpAny _ A.in1 (seqItems? (.ref S) >>= _) _ _ _
    refine wpAny_bind (wpAny_seqItems gS rfl ?_)
    show wpAny _ A.in1 (tryCatch (pyNext (.ref it)) _ >>= _) _ _ _
    refine wpAny_bind (wpAny_tryCatch (W.item (j + 1) _ _ _ (by rw [List.size_toArray, ← zl]; exact hlt) ⟨hit, pl.isList⟩ fun u h' tk' hP hst hk => ?_))
    have hu : its[j + 1]? = some u := by simpa using hP
    obtain ⟨v, hv⟩ : ∃ v, xs[j + 1]? = some v := ⟨_, List.getElem?_eq_getElem hlt⟩
    obtain ⟨u', hu', ru⟩ := rv.get hv
    rw [hu] at hu'
    obtain rfl : u = u' := Option.some.inj hu'
    have I2 : Inv X pins σ (upd H S (.lst [vb, nV (kf i)])) { s with heap := h', toks := tk' } := I.turned (fun b o nb e => hk b o (by simpa using nb) e) itn ap.l (.inr ap.e) ap.c ap.p
    obtain ⟨oI, hoI, hoc, hod⟩ := id hst.1
    have I3 : Inv X ((it, oI) :: pins) σ (upd H S (.lst [vb, nV (kf i)])) { s with heap := h', toks := tk' } := I2.pins_of fun p hp => by
      rcases List.mem_cons.mp hp with q | q
      · rw [q]
        exact ⟨hoI, itn, ap.l, ap.f, fun w z => by rw [show oI.data = _ from hod] at z; cases z⟩
      · exact I2.pin p (List.mem_append_right _ q)
    show wpAny _ A.in1 (tryCatch (holding [u] (call (.ref f) [u])) _ >>= _) _ _ _
    refine wpAny_bind (wpAny_tryCatch (wpAny_holding (wpAny_mono (turn (j + 1) v u hv ru _ _ _ (fun p hp => List.mem_cons_of_mem _ hp) (Same.upd hS) I3) (fun x s2 hx => ?_) fun _ _ z => z.elim)))
    obtain ⟨y, H2, I4, ry, ey, eH⟩ := hx
    subst ey
    rw [eH] at I4
    obtain ⟨t2, rfl⟩ := ry
    have g2 : s2.heap.get? it = some oI := (I4.pin (it, oI) (List.mem_append_right _ List.mem_cons_self)).1
    have I5 : Inv X pins σ (upd H S (.lst [vb, nV (kf i)])) s2 := I4.pins_of fun p hp => I4.pin p (List.mem_append_right _ (List.mem_cons_of_mem _ hp))
    have hit2 : s2.heap.IsListIter it l (j + 1 + 1) := ⟨oI, g2, hoc, hod⟩
    obtain ⟨ub2, tb2, n2, rb2, gS2⟩ := two_at I5 upd_same
    show wpAny _ A.in1 (tryCatch (holding [u, .int (kf (j + 1) : Int) t2] (richCompare .Lt (.int (kf (j + 1) : Int) t2) (.int (kf i : Int) tb) >>= _)) _ >>= _) _ _ _
    refine wpAny_bind (wpAny_tryCatch (wpAny_holding (wpAny_bind (CmpOf.ints_lt (prog := X.prog) (w := X.w) (A := A.in1) (P := fun i v => ∃ t, v = .int (kf i : Int) t) (fun i => (kf i : Int)) (fun i v h => h) (j + 1) i _ _ _ _ _ ⟨t2, rfl⟩ ⟨tb, rfl⟩ ?_))))
    refine wpAny_bind (wpAny_holding (wpAny_truthy_bool ?_))
    refine wpAny_bind (wpAny_letGo (wpAny_pure ?_))
    by_cases c : (kf (j + 1) : Int) < (kf i : Int)
    · simp only [c, decide_true, if_true]
      have I6 := I5.lset (l := S) (xs := [vb, nV (kf i)]) (ys := [v, nV (kf (j + 1))]) (its' := [u, .int (kf (j + 1) : Int) t2]) (f := fun _ => #[u, .int (kf (j + 1) : Int) t2]) (t' := s2.toks) upd_same (by simpa using gS2) rfl (.cons ru (.cons ⟨t2, rfl⟩ .nil)) (by show 2 ≤ sizeLine; decide)
      have e2 : upd (upd H S (.lst [vb, nV (kf i)])) S (.lst [v, nV (kf (j + 1))]) = upd H S (.lst [v, nV (kf (j + 1))]) := by
        funext b
        by_cases q : b = S
        · rw [q, upd_same, upd_same]
        · rw [upd_ne q, upd_ne q, upd_ne q]
      rw [e2] at I6
      refine wpAny_bind ?_
      refine wpAny_updateSeq gS2 rfl (wpAny_bind (wpAny_letGo ?_))
      rw [nm]
      refine wpAny_pure ⟨plainId_quiet PySem.F.plain_min_loop _, ih (j + 1) (j + 1) _ v (by omega) hlt I6 ⟨oI, ((Heap.SameBut.update s2.heap S _).2 it (Ne.symm nS)).trans g2, hoc, hod⟩ hv (Nat.le_refl _) fun j' hj' => ?_⟩
      by_cases e : j' = j + 1
      · subst e
        exact ⟨Nat.le_refl _, fun z => absurd z (Nat.lt_irrefl _)⟩
      · have q := (hb j' (by omega)).1
        exact ⟨by omega, fun _ => by omega⟩
    · simp only [c, decide_false, Bool.false_eq_true, if_false]
      refine wpAny_bind (wpAny_letGo ?_)
      rw [nm]
      refine wpAny_pure ⟨plainId_quiet PySem.F.plain_min_loop _, ih (j + 1) i _ vb (by omega) hlt I5 hit2 hvb (by omega) fun j' hj' => ?_⟩
      by_cases e : j' = j + 1
      · subst e
        exact ⟨by omega, fun z => by omega⟩
      · exact hb j' (by omega)
/-- min(l, key=f) -/
theorem min_run {A : Around} {l f : Addr} {xs : List V} {kf : Nat → Nat} {Q : VK} {E : Value → Shared → Prop} (hh : A.handled = none) (I : Inv X pins σ H s) (hl : H l = some (.lst xs)) (hne : 0 < xs.length)
    (turn : ∀ (i : Nat) (v : V) (u : Value), xs[i]? = some v → RelV v u → ∀ (pins' : List (Addr × Obj)) (H' : Hp) (s' : Shared), (∀ p ∈ pins, p ∈ pins') → Same H H' → Inv X pins' σ H' s' →
      wpAny (model X.prog X.w) A.in1 (call (.ref f) [u]) (EP X pins' σ fun y H2 => y = nV (kf i) ∧ H2 = H') (fun _ _ => False) s')
    (fin : ∀ (i : Nat) (v : V) (H' : Hp), xs[i]? = some v → FirstLeast kf xs.length i → Same H H' → Q v H') :
    wpAny (model X.prog X.w) A (call (.builtin "min") [.ref l] [(Str.ofString "key", .ref f)]) (EP X pins σ Q) E s := by
  have nm : (toString "min" ++ toString ".loop" : String) = "min.loop" := by decide
  obtain ⟨its, rv, pl, _⟩ := I.list (SqL.of hl)
  have zl := rv.length
  refine kmk_tree PySem.F.kind_min PySem.F.plain_min PySem.F.entry_min (kmk_min_key _ _) ?_
  show wpAny _ A.in1 (Builtin.Builtins.bindParams "min" ["key", "default"] 0 ⟨[], [(Str.ofString "key", .ref f)]⟩ >>= _) _ _ s
  refine wpAny_bind (wpAny_of_eq (show Builtin.Builtins.bindParams "min" ["key", "default"] 0 ⟨[], [(Str.ofString "key", .ref f)]⟩ = pure [some (.ref f), none] from rfl) ?_)
  refine wpAny_bind (wpAny_pure (wpAny_bind (wpAny_pyIter_list pl.isList (wpAny_bind (wpAny_newList ?_ (Nat.zero_le _))))))
  rw [nm]
  have oI : ∀ b o, s.heap.get? b = some o → (s.heap.push { cls := .type "list_iterator", data := .fields #[.ref l, .int 0 0] }).get? b = some o := fun b o e => Heap.get?_push_of_some _ e
  have I1 : Inv X pins σ H { s with heap := s.heap.push { cls := .type "list_iterator", data := .fields #[.ref l, .int 0 0] } } := I.kept (t' := s.toks) oI
  have hS : (s.heap.push { cls := .type "list_iterator", data := .fields #[.ref l, .int 0 0] }).objs.size = s.heap.objs.size + 1 := size_push' ..
  have I2 := I1.lnew (its := []) (ys := []) (t' := s.toks) .nil (Nat.zero_le _)
  have fS := I1.fresh
  have fI : H s.heap.objs.size = none := I.fresh
  have ap := apart_new I (Nat.le_refl s.heap.objs.size)
  have nS : (s.heap.push { cls := .type "list_iterator", data := .fields #[.ref l, .int 0 0] }).objs.size ≠ s.heap.objs.size := by
    rw [hS]
    omega
  have nl : l ≠ s.heap.objs.size := ne_of_none hl fI
  have gI : ((s.heap.push { cls := .type "list_iterator", data := .fields #[.ref l, .int 0 0] }).push (seqObj "list" #[] 0)).get? s.heap.objs.size = some { cls := .type "list_iterator", data := .fields #[.ref l, .int 0 0] } :=
    Heap.get?_push_of_some _ (Heap.get?_push_size _ rfl)
  have gS : ((s.heap.push { cls := .type "list_iterator", data := .fields #[.ref l, .int 0 0] }).push (seqObj "list" #[] 0)).get? (s.heap.push { cls := .type "list_iterator", data := .fields #[.ref l, .int 0 0] }).objs.size = some (seqObj "list" #[] 0) := Heap.get?_push_size _ rfl
  generalize (s.heap.push { cls := .type "list_iterator", data := .fields #[.ref l, .int 0 0] }).objs.size = S at *
  generalize s.heap.objs.size = it at *
  refine wpAny_pure ⟨plainId_quiet PySem.F.plain_min_loop _, ?_⟩
  have sq : SqL X.K (upd H S (.lst [])) l xs := SqL.of (by
    rw [upd_ne (ne_of_none hl fS)]
    exact hl)
  have itn : upd H S (.lst []) it = none := by
    rw [upd_ne (Ne.symm nS)]
    exact fI
  obtain ⟨its2, rv2, pl2, _⟩ := I2.list sq
  have zl2 := rv2.length
  have W := Walks.list (prog := X.prog) (w := X.w) (A := A.in1) hh it l nl its2.toArray
  refine codeAny_builtin PySem.F.entry_min_loop ?_
  rw [Around.under_plainId PySem.F.plain_min_loop _]
  show wpAny _ A.in1 (seqItems? (.ref S) >>= _) _ _ _
  refine wpAny_bind (wpAny_seqItems gS rfl ?_)
  show wpAny _ A.in1 (tryCatch (pyNext (.ref it)) _ >>= _) _ _ _
  refine wpAny_bind (wpAny_tryCatch (W.item 0 _ _ _ (by rw [List.size_toArray, ← zl2]; exact hne) ⟨⟨_, gI, rfl, rfl⟩, pl2.isList⟩ fun u h' tk' hP hst hk => ?_))
  have hu : its2[0]? = some u := by simpa using hP
  obtain ⟨v, hv⟩ : ∃ v, xs[0]? = some v := ⟨_, List.getElem?_eq_getElem hne⟩
  obtain ⟨u', hu', ru⟩ := rv2.get hv
  rw [hu] at hu'
  obtain rfl : u = u' := Option.some.inj hu'
  have I3 : Inv X pins σ (upd H S (.lst [])) { s with heap := h', toks := tk' } := I2.turned (h' := h') (t' := tk') (fun b o nb e => hk b o (by simpa using nb) e) itn ap.l (.inr ap.e) ap.c ap.p
  obtain ⟨oJ, hoJ, hoc, hod⟩ := id hst.1
  have I4 : Inv X ((it, oJ) :: pins) σ (upd H S (.lst [])) { s with heap := h', toks := tk' } := I3.pins_of fun p hp => by
    rcases List.mem_cons.mp hp with q | q
    · rw [q]
      exact ⟨hoJ, itn, ap.l, ap.f, fun w z => by rw [show oJ.data = _ from hod] at z; cases z⟩
    · exact I3.pin p (List.mem_append_right _ q)
  show wpAny _ A.in1 (tryCatch (holding [u] (call (.ref f) [u])) _ >>= _) _ _ _
  refine wpAny_bind (wpAny_tryCatch (wpAny_holding (wpAny_mono (turn 0 v u hv ru _ _ _ (fun p hp => List.mem_cons_of_mem _ hp) (Same.upd fS) I4) (fun x s2 hx => ?_) fun _ _ z => z.elim)))
  obtain ⟨y, H2, I5, ry, ey, eH⟩ := hx
  subst ey
  rw [eH] at I5
  obtain ⟨t2, rfl⟩ := ry
  have g2 : s2.heap.get? it = some oJ := (I5.pin (it, oJ) (List.mem_append_right _ List.mem_cons_self)).1
  have I6 : Inv X pins σ (upd H S (.lst [])) s2 := I5.pins_of fun p hp => I5.pin p (List.mem_append_right _ (List.mem_cons_of_mem _ hp))
  obtain ⟨_, its3, n3, r3, _, g3⟩ := I6.lstM (l := S) (xs := []) upd_same
  cases r3
  have I7 := I6.lset (l := S) (xs := []) (ys := [v, nV (kf 0)]) (its' := [u, .int (kf 0 : Int) t2]) (f := fun _ => #[u, .int (kf 0 : Int) t2]) (t' := s2.toks) upd_same g3 rfl (.cons ru (.cons ⟨t2, rfl⟩ .nil)) (by show 2 ≤ sizeLine; decide)
  have e2 : upd (upd H S (.lst [])) S (.lst [v, nV (kf 0)]) = upd H S (.lst [v, nV (kf 0)]) := by
    funext b
    by_cases q : b = S
    · rw [q, upd_same, upd_same]
    · rw [upd_ne q, upd_ne q, upd_ne q]
  rw [e2] at I7
  show wpAny _ A.in1 (updateSeq S (fun _ => #[u, .int (kf 0 : Int) t2]) >>= _) _ _ _
  refine wpAny_bind (wpAny_updateSeq g3 rfl ?_)
  rw [nm]
  refine wpAny_pure ⟨plainId_quiet PySem.F.plain_min_loop _, min_loop hh hl fS nl nS ap fI turn (fun i v u s' e1 e2 e3 e4 => ⟨v, _, e4, e3, fin i v _ e1 e2 (Same.upd fS)⟩) _ 0 0 _ v rfl hne I7 ⟨oJ, ((Heap.SameBut.update s2.heap S _).2 it (Ne.symm nS)).trans g2, hoc, hod⟩ hv (Nat.le_refl _) fun j' hj' => ?_⟩
  obtain rfl : j' = 0 := by omega
  exact ⟨Nat.le_refl _, fun z => absurd z (Nat.lt_irrefl _)⟩
end
end Ten
namespace Ten
open PySem PySem.Spec PyProof.Rows L2 LamX
/-! min(e, key=lambda x: body). -/
def tMinL (T : List (Addr × Str)) (t1 tb : TE) : TE := fun σ H Q => t1 σ H fun y H1 => ∃ (l : Addr) (xs : List V) (kf : Nat → Nat), y = .ref l ∧ Tabs T H1 ∧ H1 l = some (.lst xs) ∧ 0 < xs.length ∧
  ∀ H2, ExtN H1 H2 → Tabs T H2 → (∀ (i : Nat) (v : V) (H3 : Hp), xs[i]? = some v → Same H2 H3 → tb (some v :: σ) H3 fun y H4 => y = nV (kf i) ∧ H4 = H3) ∧ ∀ (i : Nat) (v : V) (H3 : Hp), xs[i]? = some v → FirstLeast kf xs.length i → Same H2 H3 → Q v H3
theorem bootMin : bootBuiltins "min" = some (.builtin "min") := by decide +kernel
section
variable {X : Cx}
theorem pe_minL {x : Str} {e1 body : Expr} {params : Arguments} {sc : Scope} {t1 tb : TE} {c P : Addr} {k : Nat} {p lpos kpos pos : Pos} (hg : Gl X "min") (hm : X.mg "min" = none) (TB : TabB X.base X.mg c P) (hcode : L2.Mod X.K X.mg X.base → X.env.code = .ref c)
    (hr : Room (k + 2) X.A) (L : Lam1 x X.env.scope sc) (hx : x ∉ X.N) (hdef : defaultsOf params X.env = ([], []))
    (hbind : ∀ (q : Str) (cl : List (Str × Addr)) (pm cv ctv u : Value), bindArgs (PySem.W.kla_fn "<lambda>" q params body sc cl pm cv ctv) ⟨[u], []⟩ = pure [(x, u)])
    (ha : PE X e1 t1) (hbody : ∀ (A : Around) (s : Shared) (H : Hp) (f c' : Addr), Room k (A.deeper (lamEnv X sc s.heap.objs.size f c')) → PE (lam1 X A s H x sc f c') body tb)
    (he : starEach [e1] X.env = (false, eval e1 X.env) :: starEach [] X.env := by rfl) :
    PE X (.Call (.Name "min" p) [e1] [⟨some "key", .Lambda params body sc lpos, kpos⟩] pos) (tMinL [(P, X.env.qual ++ "<lambda>")] t1 tb) := by
  have he2 : backTo pos (starEach (e1 :: []) X.env) = (false, eval e1 X.env) :: backTo pos (starEach [] X.env) := by rw [he]; rfl
  refine ⟨fun pins s σ H Q I h => ?_⟩
  refine wpAny_Call_Name_kw (ld_blt I hg hm bootMin ?_ (by decide) (by decide))
  refine PyProof.Rows.callWith_kw ?_ he2 (by rw [he2]; rfl) (by rfl) (by rfl)
  rw [he2]
  refine Calls.spliced_cons (thn (ha.run pins s σ H _ I h) fun u s1 ⟨y, H1, I1, ry, l, xs, kf, ey, hT, hl, hne, q⟩ => Calls.spliced_nil ?_)
  subst ey
  obtain rfl : u = Value.ref l := ry
  show wpAny _ _ (evalAll [do let v ← eval (.Lambda params body sc lpos) X.env; standAt pos; pure v]) _ _ s1
  refine wpAny_evalAll_cons (wpAny_bind (lam_make2 I1 TB (hcode I.mod) (T := [(P, X.env.qual ++ "<lambda>")]) List.mem_cons_self (fun p hp _ => by rw [List.mem_singleton.mp hp]) hT hdef (L.has I.ok) fun f c' pm ctv H2 s2 I2 eN T2 hf hfn hfr hco => wpAny_bind (wpAny_standAt (wpAny_pure (wpAny_evalAll_nil ?_)))))
  obtain ⟨q1, q2⟩ := q H2 eN T2
  have nfs : f ∉ X.fs := fun z => hfr (by
    rcases I.ok.stk with e | ⟨e, _⟩
    · rw [e]
      exact z
    · rw [e]
      unfold frs
      rw [List.filterMap_cons]
      split
      · exact z
      · exact List.mem_cons_of_mem _ z)
  have nfl : f ≠ X.env.locals := fun z => by
    obtain ⟨m, ⟨o, es, ep, ho, hd, _⟩, _⟩ := I2.loc
    rw [← z, hf] at ho
    cases ho
    cases hd
  have nfH : H2 f = none := hfn
  have I3 : Inv X ((f, lamO X sc params body pm ctv c') :: pins) σ H2 s2 := I2.pins_of fun p hp => by
    rcases List.mem_cons.mp hp with z | z
    · rw [z]
      exact ⟨hf, nfH, nfl, nfs, fun w z => by cases z⟩
    · exact I2.pin p (List.mem_append_right _ z)
  have hA : X.A.in1.frames = some X.stack := I2.ok.frames
  refine wpAny_mono (min_run (pins := (f, lamO X sc params body pm ctv c') :: pins) (f := f) (kf := kf) (Q := Q) (E := X.xe) hr.hd I3 (eN _ _ hl fun ps z => by cases z) hne (fun i v w e1 e2 pins' H' s' hp S J => ?_) (fun i v H' e1 e2 S => q2 i v H' e1 e2 S)) (fun z s' hz => ?_) fun e s' hz => hz
  · have pf := (J.pin (f, lamO X sc params body pm ctv c') (List.mem_append_right _ (hp _ List.mem_cons_self))).1
    have r1 : Room (k + 1) X.A.in1 := hr.in1
    exact lam1_call (tb := tb) (k := k) J L hx hA r1 e2 pf (S _ _ hco) (hbind _ _ _ _ _ _) (hbody _ _ _ _ _ (r1.deeper _)) (q1 i v H' e1 S)
  · obtain ⟨v, H3, J, rv, qv⟩ := hz
    exact ⟨v, H3, J.pins_of fun p hp => J.pin p (List.mem_append_right _ (List.mem_cons_of_mem _ hp)), rv, qv⟩
end
end Ten
namespace Ten
/-! What the program's search for the best order computes. -/
def addP (l : List Nat) (f : Nat) : List Nat := if f ∈ l then l else l ++ [f]
def fixT (v : Nat) (l : List Nat) (p : Nat) : List Nat := addP (addP l (fixN p v false)) (fixN p v true)
/-- the functions, each once, that the parts become -/
def fixedP (ps : List Nat) (v : Nat) : List Nat := ps.foldl (fixT v) []
theorem addP_len (l : List Nat) (f : Nat) : (addP l f).length ≤ l.length + 1 := by
  unfold addP
  split
  · omega
  · rw [List.length_append, List.length_singleton]
    omega
theorem addP_mem {l : List Nat} {f g : Nat} : g ∈ addP l f ↔ g ∈ l ∨ g = f := by
  unfold addP
  split
  · rename_i h
    exact ⟨.inl, fun z => by rcases z with z | z; exact z; exact z ▸ h⟩
  · rw [List.mem_append, List.mem_singleton]
theorem addP_nodup {l : List Nat} {f : Nat} (h : l.Nodup) : (addP l f).Nodup := by
  unfold addP
  split
  · exact h
  · rename_i c
    refine List.nodup_append.mpr ⟨h, by simp, fun x hx y hy e => ?_⟩
    rw [List.mem_singleton] at hy
    exact c (hy ▸ e ▸ hx)
theorem fixT_len (v : Nat) (l : List Nat) (p : Nat) : (fixT v l p).length ≤ l.length + 2 := by
  unfold fixT
  have q1 := addP_len l (fixN p v false)
  have q2 := addP_len (addP l (fixN p v false)) (fixN p v true)
  omega
theorem fold_len (v : Nat) : ∀ (ps l : List Nat), (ps.foldl (fixT v) l).length ≤ l.length + 2 * ps.length
  | [], l => by simp
  | p :: r, l => by
    rw [List.foldl_cons, List.length_cons]
    have q1 := fold_len v r (fixT v l p)
    have q2 := fixT_len v l p
    omega
theorem fixedP_len (ps : List Nat) (v : Nat) : (fixedP ps v).length ≤ 2 * ps.length := by
  have q := fold_len v ps []
  rw [List.length_nil] at q
  unfold fixedP
  omega
theorem fold_mem (v : Nat) {g : Nat} : ∀ (ps l : List Nat), g ∈ ps.foldl (fixT v) l ↔ g ∈ l ∨ ∃ p ∈ ps, ∃ z, g = fixN p v z
  | [], l => by simp
  | p :: r, l => by
    rw [List.foldl_cons, fold_mem v r]
    unfold fixT
    rw [addP_mem, addP_mem]
    constructor
    · rintro (((h | h) | h) | ⟨q, hq, z, h⟩)
      · exact .inl h
      · exact .inr ⟨p, List.mem_cons_self, _, h⟩
      · exact .inr ⟨p, List.mem_cons_self, _, h⟩
      · exact .inr ⟨q, List.mem_cons_of_mem _ hq, z, h⟩
    · rintro (h | ⟨q, hq, z, h⟩)
      · exact .inl (.inl (.inl h))
      · rcases List.mem_cons.mp hq with e | e
        · subst e
          cases z with
          | false => exact .inl (.inl (.inr h))
          | true => exact .inl (.inr h)
        · exact .inr ⟨q, e, z, h⟩
theorem fixedP_mem {v g : Nat} {ps : List Nat} : g ∈ fixedP ps v ↔ ∃ p ∈ ps, ∃ z, g = fixN p v z := by
  unfold fixedP
  rw [fold_mem]
  simp
theorem fold_nodup (v : Nat) : ∀ (ps l : List Nat), l.Nodup → (ps.foldl (fixT v) l).Nodup
  | [], _, h => h
  | p :: r, l, h => fold_nodup v r _ (addP_nodup (addP_nodup h))
theorem fixedP_nodup (ps : List Nat) (v : Nat) : (fixedP ps v).Nodup := fold_nodup v ps [] List.nodup_nil
theorem fixedP_lt {ps : List Nat} {v : Nat} (hv : v < 10) (h : ∀ p ∈ ps, p < Full) : ∀ g ∈ fixedP ps v, g < Full := fun g hg => by
  obtain ⟨p, hp, z, e⟩ := fixedP_mem.mp hg
  rw [e]
  exact fixN_lt z (h p hp) hv
/-- how many of the parts the variable matters to -/
def nnN (ps : List Nat) (v : Nat) : Nat := (ps.filter fun p => hang p v).length
def placesN (done n : Nat) : List Nat := (List.range n).filter fun p => decide ((done >>> p) &&& 1 = 0)
theorem log_lt {d : Nat} (h : d ≠ 0) : d - 2 ^ Nat.log2 d < d := Nat.sub_lt (Nat.pos_of_ne_zero h) (Nat.two_pow_pos _)
/-- the parts where the places in d are done -/
def pR (f : Nat) (vs : List Nat) (d : Nat) : List Nat := if h : d = 0 then [f] else fixedP (pR f vs (d - 2 ^ Nat.log2 d)) (vs.getD (Nat.log2 d) 0)
termination_by d
decreasing_by exact log_lt h
/-- .. of all, up to d -/
def tabN (f : Nat) (vs : List Nat) (d : Nat) : List (List Nat) := (List.range (d + 1)).map (pR f vs)
theorem pR_zero (f : Nat) (vs : List Nat) : pR f vs 0 = [f] := by
  rw [pR]
  rfl
theorem pR_next (f : Nat) (vs : List Nat) {d : Nat} (h : d ≠ 0) : pR f vs d = fixedP (pR f vs (d - 2 ^ Nat.log2 d)) (vs.getD (Nat.log2 d) 0) := by
  rw [pR, dif_neg h]
theorem log_le {d : Nat} (h : d ≠ 0) : 2 ^ Nat.log2 d ≤ d := Nat.log2_self_le h
theorem log_hi (d : Nat) : d < 2 ^ (Nat.log2 d + 1) := Nat.lt_log2_self
theorem xor_top {d : Nat} (h : d ≠ 0) : d ^^^ (1 <<< Nat.log2 d) = d - 2 ^ Nat.log2 d := by
  have h1 := log_le h
  have h2 := log_hi d
  rw [Nat.pow_succ, Nat.mul_two] at h2
  rw [Nat.one_shiftLeft]
  generalize Nat.log2 d = l at h1 h2
  obtain ⟨r, e⟩ : ∃ r, d = 2 ^ l + r := ⟨d - 2 ^ l, by omega⟩
  have hr : r < 2 ^ l := by omega
  subst e
  rw [Nat.add_sub_cancel_left]
  refine Nat.eq_of_testBit_eq fun i => ?_
  rw [Nat.testBit_xor, Nat.testBit_two_pow]
  rcases Nat.lt_trichotomy i l with c | c | c
  · rw [Nat.testBit_two_pow_add_gt c, decide_eq_false (by omega)]
    simp
  · subst c
    rw [Nat.testBit_two_pow_add_eq, Nat.testBit_lt_two_pow hr]
    simp
  · rw [decide_eq_false (by omega), Nat.testBit_lt_two_pow (Nat.lt_of_lt_of_le h2 (by rw [← Nat.mul_two, ← Nat.pow_succ]; exact Nat.pow_le_pow_right (by decide) c)), Nat.testBit_lt_two_pow (Nat.lt_of_lt_of_le hr (Nat.pow_le_pow_right (by decide) (Nat.le_of_lt c)))]
    rfl
theorem pR_len (f : Nat) (vs : List Nat) : ∀ (k d : Nat), d < 2 ^ k → (pR f vs d).length ≤ 2 ^ k
  | k, d, h => by
    by_cases h0 : d = 0
    · rw [h0, pR_zero]
      exact Nat.two_pow_pos k
    · have h1 := log_le h0
      have h2 := log_hi d
      rw [Nat.pow_succ, Nat.mul_two] at h2
      have h3 : Nat.log2 d < k := (Nat.pow_lt_pow_iff_right (by decide : 1 < 2)).mp (Nat.lt_of_le_of_lt h1 h)
      have q := pR_len f vs (Nat.log2 d) (d - 2 ^ Nat.log2 d) (by omega)
      rw [pR_next f vs h0]
      have q2 := fixedP_len (pR f vs (d - 2 ^ Nat.log2 d)) (vs.getD (Nat.log2 d) 0)
      have q3 : 2 ^ (Nat.log2 d + 1) ≤ 2 ^ k := Nat.pow_le_pow_right (by decide) h3
      rw [Nat.pow_succ] at q3
      omega
termination_by k d => d
decreasing_by exact log_lt h0
theorem pR_lt {f : Nat} {vs : List Nat} (hf : f < Full) (hv : ∀ v ∈ vs, v < 10) (d : Nat) : ∀ p ∈ pR f vs d, p < Full := by
  induction d using Nat.strongRecOn with
  | _ d ih =>
    by_cases h0 : d = 0
    · rw [h0, pR_zero]
      intro p hp
      rw [List.mem_singleton.mp hp]
      exact hf
    · rw [pR_next f vs h0]
      refine fixedP_lt ?_ (ih _ (log_lt h0))
      rw [List.getD_eq_getElem?_getD]
      cases e : vs[Nat.log2 d]? with
      | none => exact (by decide : 0 < 10)
      | some v => exact hv v (List.mem_of_getElem? e)
theorem pR_nodup (f : Nat) (vs : List Nat) (d : Nat) : (pR f vs d).Nodup := by
  by_cases h0 : d = 0
  · rw [h0, pR_zero]
    simp
  · rw [pR_next f vs h0]
    exact fixedP_nodup _ _
def rowN (vs ps : List Nat) : List Nat := vs.map (nnN ps)
def thrN (rows : List (List Nat)) (fw : List Nat) (done p : Nat) : Nat := (rows.getD done []).getD p 0 + fw.getD (done ||| (1 <<< p)) 0
def leastOf : List Nat → Nat
  | [] => 0
  | [x] => x
  | x :: r => min x (leastOf r)
/-- the fewest nodes, behind k steps from the highest place down -/
def fewN (rows : List (List Nat)) (n : Nat) : Nat → List Nat
  | 0 => List.replicate (2 ^ n) 0
  | k + 1 => (fewN rows n k).set (2 ^ n - 2 - k) (leastOf ((placesN (2 ^ n - 2 - k) n).map (thrN rows (fewN rows n k) (2 ^ n - 2 - k))))
/-- the first place with the least key -/
def firstBy (k : Nat → Nat) : List Nat → Nat
  | [] => 0
  | [x] => x
  | x :: r => if k (firstBy k r) < k x then firstBy k r else x
theorem leastOf_le : ∀ (l : List Nat) (x : Nat), x ∈ l → leastOf l ≤ x
  | [y], x, h => by
    rw [List.mem_singleton] at h
    rw [h]
    exact Nat.le_refl _
  | y :: z :: r, x, h => by
    show min y (leastOf (z :: r)) ≤ x
    rcases List.mem_cons.mp h with e | e
    · rw [e]
      exact Nat.min_le_left _ _
    · exact Nat.le_trans (Nat.min_le_right _ _) (leastOf_le (z :: r) x e)
theorem leastOf_mem : ∀ l : List Nat, l ≠ [] → leastOf l ∈ l
  | [y], _ => List.mem_singleton.mpr rfl
  | y :: z :: r, _ => by
    show min y (leastOf (z :: r)) ∈ _
    have q := leastOf_mem (z :: r) (by simp)
    rcases Nat.le_total y (leastOf (z :: r)) with h | h
    · rw [Nat.min_eq_left h]
      exact List.mem_cons_self
    · rw [Nat.min_eq_right h]
      exact List.mem_cons_of_mem _ q
theorem leastOf_eq {l : List Nat} {m : Nat} (h : m ∈ l) (hl : ∀ x ∈ l, m ≤ x) : m = leastOf l :=
  Nat.le_antisymm (hl _ (leastOf_mem l fun z => by rw [z] at h; cases h)) (leastOf_le l m h)
/-- told by places: it is the first one with the least key -/
theorem firstBy_at (k : Nat → Nat) : ∀ (l : List Nat) (j x : Nat), l[j]? = some x → (∀ i y, l[i]? = some y → k x ≤ k y ∧ (i < j → k x < k y)) → x = firstBy k l
  | [], _, _, h, _ => by cases h
  | [y], j, x, h, _ => by
    cases j with
    | zero =>
      cases h
      rfl
    | succ j => cases h
  | y :: z :: r, 0, x, h, hl => by
    rw [List.getElem?_cons_zero] at h
    cases h
    show y = if k (firstBy k (z :: r)) < k y then _ else y
    rw [if_neg]
    intro c
    have mem : ∀ l : List Nat, l ≠ [] → firstBy k l ∈ l := fun l => by
      induction l with
      | nil => exact fun q => absurd rfl q
      | cons a t ih =>
        intro _
        cases t with
        | nil => exact List.mem_singleton.mpr rfl
        | cons b u =>
          show (if k (firstBy k (b :: u)) < k a then firstBy k (b :: u) else a) ∈ _
          split
          · exact List.mem_cons_of_mem _ (ih (by simp))
          · exact List.mem_cons_self
    obtain ⟨i, hi, e⟩ := List.getElem_of_mem (mem (z :: r) (by simp))
    have q := (hl (i + 1) (firstBy k (z :: r)) (by rw [List.getElem?_cons_succ, List.getElem?_eq_getElem hi, e])).1
    omega
  | y :: z :: r, j + 1, x, h, hl => by
    rw [List.getElem?_cons_succ] at h
    have ih := firstBy_at k (z :: r) j x h fun i u e => by
      have q := hl (i + 1) u (by rw [List.getElem?_cons_succ]; exact e)
      exact ⟨q.1, fun c => q.2 (by omega)⟩
    have q := (hl 0 y (List.getElem?_cons_zero ..)).2 (by omega)
    show x = if k (firstBy k (z :: r)) < k y then firstBy k (z :: r) else y
    rw [← ih, if_pos q]
def nxtN (rows : List (List Nat)) (fw : List Nat) (n d : Nat) : Nat := firstBy (thrN rows fw d) (placesN d n)
/-- the order that the search takes, from d on, k places more -/
def takeN (rows : List (List Nat)) (fw vs : List Nat) : Nat → Nat → List Nat
  | 0, _ => []
  | k + 1, d => vs.getD (nxtN rows fw vs.length d) 0 :: takeN rows fw vs k (d ||| (1 <<< nxtN rows fw vs.length d))
/-- what is done behind j places -/
def dnN (rows : List (List Nat)) (fw vs : List Nat) : Nat → Nat
  | 0 => 0
  | j + 1 => dnN rows fw vs j ||| (1 <<< nxtN rows fw vs.length (dnN rows fw vs j))
def ordN (rows : List (List Nat)) (fw vs : List Nat) : Nat → List Nat
  | 0 => []
  | j + 1 => ordN rows fw vs j ++ [vs.getD (nxtN rows fw vs.length (dnN rows fw vs j)) 0]
theorem ord_take (rows : List (List Nat)) (fw vs : List Nat) : ∀ k j, ordN rows fw vs j ++ takeN rows fw vs k (dnN rows fw vs j) = ordN rows fw vs (j + k)
  | 0, j => List.append_nil _
  | k + 1, j => by
    have q := ord_take rows fw vs k (j + 1)
    rw [show j + (k + 1) = j + 1 + k by omega, ← q]
    show _ ++ _ :: takeN rows fw vs k _ = (ordN rows fw vs j ++ [_]) ++ takeN rows fw vs k _
    rw [List.append_assoc]
    rfl
theorem take_ord (rows : List (List Nat)) (fw vs : List Nat) (k : Nat) : takeN rows fw vs k 0 = ordN rows fw vs k := by
  have q := ord_take rows fw vs k 0
  rw [Nat.zero_add] at q
  exact q
/-- what best_order gives -/
def rowsB (f : Nat) (vs : List Nat) : List (List Nat) := (tabN f vs (2 ^ vs.length - 1)).map (rowN vs)
def fewB (f : Nat) (vs : List Nat) : List Nat := fewN (rowsB f vs) vs.length (2 ^ vs.length - 1)
def bestN (f : Nat) (vs : List Nat) : Nat × List Nat := ((fewB f vs).getD 0 0, ordN (rowsB f vs) (fewB f vs) vs vs.length)
theorem tabN_len (f : Nat) (vs : List Nat) (d : Nat) : (tabN f vs d).length = d + 1 := by
  unfold tabN
  rw [List.length_map, List.length_range]
theorem tabN_at (f : Nat) (vs : List Nat) {d e : Nat} (h : e ≤ d) : (tabN f vs d)[e]? = some (pR f vs e) := by
  unfold tabN
  rw [List.getElem?_map, List.getElem?_range (by omega)]
  rfl
theorem tabN_next (f : Nat) (vs : List Nat) (d : Nat) : tabN f vs (d + 1) = tabN f vs d ++ [pR f vs (d + 1)] := by
  unfold tabN
  rw [List.range_succ, List.map_append]
  rfl
theorem fewN_len (rows : List (List Nat)) (n : Nat) : ∀ k, (fewN rows n k).length = 2 ^ n
  | 0 => List.length_replicate
  | k + 1 => by
    show (List.set _ _ _).length = _
    rw [List.length_set]
    exact fewN_len rows n k
theorem bit_zero (d p : Nat) : (d >>> p) &&& 1 = 0 ↔ d.testBit p = false := by
  have e : (d >>> p) &&& 1 = (d >>> p) % 2 := Nat.and_one_is_mod _
  have q := op_bit d p
  rw [e] at q ⊢
  generalize (d >>> p) % 2 = x at e q
  cases c : d.testBit p with
  | true =>
    rw [c] at q
    rw [q.mpr rfl]
    simp
  | false =>
    rw [c] at q
    have z : ¬ x = 1 := fun z => absurd (q.mp z) (by decide)
    have l : x < 2 := by
      rw [← e, Nat.and_one_is_mod]
      omega
    exact ⟨fun _ => rfl, fun _ => by omega⟩
theorem places_mem {d n p : Nat} : p ∈ placesN d n ↔ p < n ∧ d.testBit p = false := by
  unfold placesN
  rw [List.mem_filter, List.mem_range, decide_eq_true_iff, bit_zero]
theorem or_bit (d p q : Nat) : (d ||| (1 <<< p)).testBit q = (d.testBit q || decide (q = p)) := by
  rw [Nat.testBit_or, Nat.one_shiftLeft, Nat.testBit_two_pow]
  congr 1
  simp [eq_comm]
theorem places_or (d n p : Nat) : placesN (d ||| (1 <<< p)) n = (placesN d n).filter fun q => q != p := by
  unfold placesN
  rw [List.filter_filter]
  refine List.filter_congr fun q _ => ?_
  rw [Bool.eq_iff_iff, decide_eq_true_iff, bit_zero, or_bit, Bool.and_eq_true, decide_eq_true_iff, bit_zero]
  simp [and_comm]
theorem places_nodup (d n : Nat) : (placesN d n).Nodup := List.nodup_range.sublist List.filter_sublist
theorem drop_one : ∀ (l : List Nat) (p : Nat), l.Nodup → p ∈ l → (l.filter fun q => q != p).length + 1 = l.length
  | x :: r, p, hn, h => by
    have hn' := List.nodup_cons.mp hn
    by_cases e : x = p
    · subst e
      have q : r.filter (fun q => q != x) = r := List.filter_eq_self.mpr fun y hy => by
        have : y ≠ x := fun z => hn'.1 (z ▸ hy)
        simpa using this
      rw [List.filter_cons, if_neg (by simp), q, List.length_cons]
    · have hr : p ∈ r := by
        rcases List.mem_cons.mp h with z | z
        · exact absurd z.symm e
        · exact z
      rw [List.filter_cons, if_pos (by simpa using e), List.length_cons, List.length_cons, drop_one r p hn'.2 hr]
theorem or_lt {d n p : Nat} (hd : d < 2 ^ n) (hp : p < n) : d ||| (1 <<< p) < 2 ^ n := by
  rw [Nat.one_shiftLeft]
  exact Nat.or_lt_two_pow hd (Nat.pow_lt_pow_right (by decide) hp)
theorem firstBy_mem (k : Nat → Nat) : ∀ l : List Nat, l ≠ [] → firstBy k l ∈ l
  | [], h => absurd rfl h
  | [x], _ => List.mem_singleton.mpr rfl
  | x :: y :: r, _ => by
    show (if k (firstBy k (y :: r)) < k x then firstBy k (y :: r) else x) ∈ _
    split
    · exact List.mem_cons_of_mem _ (firstBy_mem k (y :: r) (by simp))
    · exact List.mem_cons_self
theorem nxt_mem {rows : List (List Nat)} {fw : List Nat} {n d : Nat} (h : placesN d n ≠ []) : nxtN rows fw n d < n ∧ d.testBit (nxtN rows fw n d) = false :=
  places_mem.mp (firstBy_mem _ _ h)
/-- behind j places: j bits are set -/
theorem dn_ok (rows : List (List Nat)) (fw vs : List Nat) : ∀ j, j ≤ vs.length → dnN rows fw vs j < 2 ^ vs.length ∧ (placesN (dnN rows fw vs j) vs.length).length + j = vs.length
  | 0, _ => by
    refine ⟨Nat.two_pow_pos _, ?_⟩
    have q : placesN 0 vs.length = List.range vs.length := by
      unfold placesN
      refine List.filter_eq_self.mpr fun p _ => ?_
      rw [decide_eq_true_iff, bit_zero, Nat.zero_testBit]
    show (placesN 0 vs.length).length + 0 = _
    rw [q, List.length_range]
    rfl
  | j + 1, h => by
    obtain ⟨q1, q2⟩ := dn_ok rows fw vs j (by omega)
    have ne : placesN (dnN rows fw vs j) vs.length ≠ [] := fun z => by
      rw [z, List.length_nil] at q2
      omega
    have m := firstBy_mem (thrN rows fw (dnN rows fw vs j)) _ ne
    have hp : nxtN rows fw vs.length (dnN rows fw vs j) < vs.length := (nxt_mem ne).1
    refine ⟨or_lt q1 hp, ?_⟩
    show (placesN (dnN rows fw vs j ||| (1 <<< nxtN rows fw vs.length (dnN rows fw vs j))) vs.length).length + (j + 1) = _
    rw [places_or]
    have q3 := drop_one _ (nxtN rows fw vs.length (dnN rows fw vs j)) (places_nodup _ _) m
    omega
end Ten
namespace Ten
open PySem PySem.Spec PyProof.Rows L2
/-! orders: the small defs. -/
/-- a list of lists of numbers -/
def RowsAt (H : Hp) (q : Addr) (rows : List (List Nat)) : Prop := ∃ ads : List Addr, H q = some (.lst (ads.map V.ref)) ∧ ads.length = rows.length ∧ ∀ (i : Nat) (ad : Addr) (r : List Nat), ads[i]? = some ad → rows[i]? = some r → H ad = some (.lst (nVs r))
theorem RowsAt.same {H H' : Hp} {q : Addr} {rows : List (List Nat)} (R : RowsAt H q rows) (s : Same H H') : RowsAt H' q rows := by
  obtain ⟨ads, e1, e2, e3⟩ := R
  exact ⟨ads, s _ _ e1, e2, fun i ad r a b => s _ _ (e3 i ad r a b)⟩
theorem RowsAt.at {H : Hp} {q : Addr} {rows : List (List Nat)} (R : RowsAt H q rows) {i : Nat} {r : List Nat} (h : rows[i]? = some r) : ∃ (xs : List V) (ad : Addr), H q = some (.lst xs) ∧ xs[i]? = some (.ref ad) ∧ H ad = some (.lst (nVs r)) := by
  obtain ⟨ads, e1, e2, e3⟩ := R
  have hi : i < ads.length := by
    rw [e2]
    exact (List.getElem?_eq_some_iff.mp h).1
  refine ⟨_, ads[i], e1, ?_, e3 i _ r (List.getElem?_eq_getElem hi) h⟩
  rw [List.getElem?_map, List.getElem?_eq_getElem hi]
  rfl
section
variable {P : Program} {w : World} {K : PySem.W.Frag} {mg : Str → Option Value} {base : Heap} {a : Ad}
/-! ### places_left -/
def spPl (a : Ad) : Sp := fun vs H Q _ => ∃ (d n : Nat), vs = [nV d, nV n] ∧ n < 1000 ∧ ∀ H' p, Same H H' → H p = none → H' p = some (.lst (nVs (placesN d n))) → Q (.ref p) H'
theorem scPlc : FnScope ["done", "length", "place"] ["done", "length"] (defScope s_places_left) := ⟨rfl, rfl, rfl, by decide +kernel, rfl, by decide +kernel, by decide +kernel⟩
theorem ok_pl (T : Txt K mg a) : FnOk P w K mg base CX0 1 a.f_places_left a.d_places_left ["done", "length"] (spPl a) := by
  refine T.places_left.F.ok scPlc (fun vs H Q E h => ?_) (fun cdv A outer s H vs Q E hr h => ⟨_, pss_one (ps_ret (pe_lc (own := [("place", 2)]) (g := gName 2) rfl scPlc.nd (pi_range1 rfl T.b_range (pa_cons (pv 1) pa_nil))
    (blkOk_by (N := ["done", "length", "place"]) (sc := defScope s_places_left) (by decide +kernel)) (fun _ _ _ _ _ => pg_name (i := 2) scPlc.nd rfl (Or.inl rfl))
    (fun _ _ _ _ _ => pts_one (pt_cmpR opn_eq (pe_op opn_and (pe_op opn_shr (pv 0) (pv 2)) pe_int) pe_int (nomark _))) (fun _ _ _ _ _ => pv 2))), ?_⟩)
  · obtain ⟨d, n, rfl, _⟩ := h
    rfl
  · obtain ⟨d, n, rfl, hn, q⟩ := h
    refine ⟨_, rfl, (n : Int), rfl, by omega, by omega, fun D hD => lc_range (lo := 0) (n := n) (fun i H' => Same H H' ∧ H' D = some (.lst (nVs (placesN d i)))) ⟨Same.upd hD, upd_same⟩ ?_ ?_⟩
    · rintro i H' hi ⟨s1, eD⟩
      have ei : (0 : Int) + (i : Int) = (i : Int) := Int.zero_add _
      rw [ei]
      refine ⟨rfl, _, rfl, _, rfl, d, i, rfl, rfl, _, 1, rfl, rfl, _, 0, rfl, rfl, _, rfl, ?_⟩
      have nx : placesN d (i + 1) = placesN d i ++ if decide ((d >>> i) &&& 1 = 0) = true then [i] else [] := filter_next (fun p => decide ((d >>> p) &&& 1 = 0)) i
      by_cases hh : (d >>> i) &&& 1 = 0
      · rw [decide_eq_true hh] at nx ⊢
        rw [if_pos rfl] at nx
        refine iteT ⟨_, rfl, _, eD, ?_, fun b o e => ?_, ?_⟩
        · rw [nVs_len]
          exact Nat.lt_of_le_of_lt (List.length_filter_le _ _) (by rw [List.length_range, sizeLine_eq]; omega)
        · rw [upd_ne (ne_of_none e hD)]
          exact s1 b o e
        · rw [upd_same, nx, ← nVs_app]
          rfl
      · rw [decide_eq_false hh] at nx ⊢
        rw [if_neg (by decide), List.append_nil] at nx
        refine iteF ⟨s1, ?_⟩
        rw [nx]
        exact eD
    · rintro H' ⟨s1, eD⟩
      exact q H' D s1 hD eD
/-! ### nodes_next -/
def spNx (a : Ad) : Sp := fun vs H Q _ => ∃ (cs pl : Addr) (ps : List Nat) (v : Nat), vs = [.ref cs, .ref pl, nV v] ∧ CasesAt a H cs ∧ H pl = some (.lst (nVs ps)) ∧ (∀ p ∈ ps, p < Full) ∧ v < 10 ∧ ps.length ≤ 100000 ∧ ∀ H', Same H H' → Q (nV (nnN ps v)) H'
theorem scNx : FnScope ["cases", "parts", "variable", "part"] ["cases", "parts", "variable"] (defScope s_nodes_next) := ⟨rfl, rfl, rfl, by decide +kernel, rfl, by decide +kernel, by decide +kernel⟩
theorem ok_nx (T : Txt K mg a) : FnOk P w K mg base CX0 3 a.f_nodes_next a.d_nodes_next ["cases", "parts", "variable"] (spNx a) := by
  refine T.nodes_next.F.ok scNx (fun vs H Q E h => ?_) (fun cdv A outer s H vs Q E hr h => ⟨_, pss_one (ps_ret (pe_callB call_len_seq (by rfl) T.b_len PySem.boot_len (pa_cons (pe_lc (own := [("part", 3)]) (g := gName 3) rfl scNx.nd (pi_list (pv 1))
    (blkOk_by (N := ["cases", "parts", "variable", "part"]) (sc := defScope s_nodes_next) (by decide +kernel)) (fun _ _ _ _ _ => pg_name (i := 3) scNx.nd rfl (Or.inl rfl))
    (fun _ _ _ _ _ => pts_one (pt_val (pe_meth (pv 0) T.cl_Cases T.Cases_matters_to.M (ok_mat T) hr T.Cases_matters_to.b .nil pass0 (pa_cons (pv 2) (pa_cons (pv 3) pa_nil))))) (fun _ _ _ _ _ => pv 3)) pa_nil))), ?_⟩)
  · obtain ⟨cs, pl, ps, v, rfl, _⟩ := h
    rfl
  · obtain ⟨cs, pl, ps, v, rfl, C, hp, hf, hv, hz, q⟩ := h
    refine ⟨_, rfl, pl, rfl, ⟨_, SqL.of hp⟩, fun D hD => lc_list (K := K) (a := pl) (xs := nVs ps) (fun i H' => Same H H' ∧ H' D = some (.lst (nVs ((ps.take i).filter fun p => hang p v)))) ⟨Same.upd hD, upd_same⟩ (fun i H' _ ⟨s1, _⟩ => SqL.of (s1 _ _ hp)) ?_ ?_⟩
    · rintro i x H' hx ⟨s1, eD⟩
      obtain ⟨n, hn, rfl⟩ := nVs_at hx
      have C' := C.same s1
      obtain ⟨dx, y, nn, e1, e2, e3⟩ := id C'
      have hb : i < ps.length := (List.getElem?_eq_some_iff.mp hn).1
      refine ⟨rfl, _, rfl, cs, dx, _, rfl, e1, csF_m y nn (by decide +kernel), _, rfl, _, rfl, cs, v, n, rfl, C', hf n (List.mem_of_getElem? hn), hv, _, rfl, ?_⟩
      have nx : (ps.take (i + 1)).filter (fun p => hang p v) = (ps.take i).filter (fun p => hang p v) ++ if hang n v = true then [n] else [] := by
        rw [List.take_add_one, hn, List.filter_append]
        congr 1
        show List.filter (fun p => hang p v) [n] = _
        rw [List.filter_cons, List.filter_nil]
      cases hh : hang n v with
      | true =>
        rw [hh, if_pos rfl] at nx
        refine iteT ⟨_, rfl, _, eD, ?_, fun b o e => ?_, ?_⟩
        · rw [nVs_len]
          refine Nat.lt_of_le_of_lt (List.length_filter_le _ _) ?_
          rw [List.length_take, sizeLine_eq]
          omega
        · rw [upd_ne (ne_of_none e hD)]
          exact s1 b o e
        · rw [upd_same, nx, ← nVs_app]
          rfl
      | false =>
        rw [hh, if_neg (by decide), List.append_nil] at nx
        refine iteF ⟨s1, ?_⟩
        rw [nx]
        exact eD
    · rintro H' ⟨s1, eD⟩
      rw [nVs_len, List.take_length] at eD
      refine ⟨D, _, rfl, .inl (SqL.of eD), ?_⟩
      rw [nVs_len]
      exact q H' s1
/-! ### nodes_through -/
def spThr : Sp := fun vs H Q _ => ∃ (nn fw : Addr) (rows : List (List Nat)) (r f : List Nat) (d p x y : Nat), vs = [.ref nn, .ref fw, nV d, nV p] ∧ RowsAt H nn rows ∧ H fw = some (.lst (nVs f)) ∧ rows[d]? = some r ∧ r[p]? = some x ∧ f[d ||| (1 <<< p)]? = some y ∧ p < 1000 ∧ Q (nV (x + y)) H
theorem scThr : FnScope ["next_nodes", "fewest", "done", "place"] ["next_nodes", "fewest", "done", "place"] (defScope s_nodes_through) := ⟨rfl, rfl, rfl, by decide +kernel, rfl, by decide +kernel, by decide +kernel⟩
theorem ok_thr (T : Txt K mg a) : FnOk P w K mg base CX0 1 a.f_nodes_through a.d_nodes_through ["next_nodes", "fewest", "done", "place"] spThr := by
  refine T.nodes_through.F.ok scThr (fun vs H Q E h => ?_) (fun cdv A outer s H vs Q E hr h => ⟨_, pss_one (ps_ret (pe_op op_addN (pe_ix ix_list (pe_ix ix_list (pv 0) (pv 2) (fun _ _ => rfl)) (pv 3) (fun _ _ => rfl))
    (pe_ix ix_list (pv 1) (pe_op opn_or (pv 2) (pe_op opn_shl pe_int (pv 3))) (fun _ _ => rfl)))), ?_⟩)
  · obtain ⟨nn, fw, rows, r, f, d, p, x, y, rfl, _⟩ := h
    rfl
  · obtain ⟨nn, fw, rows, r, f, d, p, x, y, rfl, R, hf, e1, e2, e3, hp, q⟩ := h
    obtain ⟨xs, ad, g1, g2, g3⟩ := R.at e1
    refine ⟨_, rfl, _, rfl, nn, xs, d, .ref ad, rfl, rfl, SqL.of g1, at_nat g2, _, rfl, ad, _, p, nV x, rfl, rfl, SqL.of g3, at_nat (nVs_get e2), ?_⟩
    refine ⟨_, rfl, _, rfl, _, rfl, 1, p, 1, rfl, rfl, by decide, by omega, d, _, rfl, rfl, fw, _, _, nV y, rfl, rfl, SqL.of hf, at_nat (nVs_get e3), _, _, rfl, rfl, q⟩
/-! ### fixed_parts -/
def dB (l : List Nat) : List (Key × V) := l.map fun p => (Sum.inl ((p : Nat) : Int), V.bl true)
theorem dB_val (f : Nat) : ∀ l : List Nat, f ∉ l → valV (dB l) (Sum.inl ((f : Nat) : Int)) = none
  | [], _ => rfl
  | p :: r, h => by
    have h1 : ¬ p = f := fun z => h (by rw [z]; exact List.mem_cons_self)
    refine (valV_neg (p := (Sum.inl ((p : Nat) : Int), V.bl true)) fun z => ?_).trans (dB_val f r fun z => h (List.mem_cons_of_mem _ z))
    injection z with z
    exact h1 (Int.ofNat.inj z)
theorem dB_put (l : List Nat) (f : Nat) : putK (dB l) (Sum.inl ((f : Nat) : Int)) (V.bl true) = dB (addP l f) := by
  unfold addP
  by_cases h : f ∈ l
  · rw [if_pos h]
    unfold putK
    rw [if_pos]
    · unfold dB
      rw [List.map_map]
      refine List.map_congr_left fun p _ => ?_
      show (if (Sum.inl ((p : Nat) : Int) : Key) = Sum.inl ((f : Nat) : Int) then (Sum.inl ((p : Nat) : Int), V.bl true) else (Sum.inl ((p : Nat) : Int), V.bl true)) = _
      split <;> rfl
    · rw [List.any_eq_true]
      exact ⟨(Sum.inl ((f : Nat) : Int), V.bl true), List.mem_map.mpr ⟨f, h, rfl⟩, by simp⟩
  · rw [if_neg h, putK_new _ (dB_val f l h)]
    unfold dB
    rw [List.map_append]
    rfl
theorem dB_keys (l : List Nat) : ((dB l).map fun kv => kV kv.1) = nVs l := by
  unfold dB nVs
  rw [List.map_map]
  rfl
def spFP (a : Ad) : Sp := fun vs H Q _ => ∃ (cs pl : Addr) (ps : List Nat) (v : Nat), vs = [.ref cs, .ref pl, nV v] ∧ CasesAt a H cs ∧ H pl = some (.lst (nVs ps)) ∧ (∀ p ∈ ps, p < Full) ∧ v < 10 ∧ ps.length ≤ 100000 ∧
  ∀ H' q, Same H H' → H q = none → H' q = some (.lst (nVs (fixedP ps v))) → Q (.ref q) H'
theorem scFP : FnScope ["cases", "parts", "variable", "met", "part"] ["cases", "parts", "variable"] (defScope s_fixed_parts) := ⟨rfl, rfl, rfl, by decide +kernel, rfl, by decide +kernel, by decide +kernel⟩
theorem ok_fp (T : Txt K mg a) : FnOk P w K mg base CX0 2 a.f_fixed_parts a.d_fixed_parts ["cases", "parts", "variable"] (spFP a) := by
  refine T.fixed_parts.F.ok scFP (fun vs H Q E h => ?_) (fun cdv A outer s H vs Q E hr h => ⟨_, pss_cons (ps_set (i := 3) scFP.nd rfl (.inl rfl) pe_dnewK)
    (pss_cons (ps_for PassesOwn.never rfl (pi_list (pv 1)) (pg_name (i := 4) scFP.nd rfl (.inl rfl))
      (pss_cons (ps_dput (hu_of hr) (pv 3) (pe_meth (pv 0) T.cl_Cases T.Cases_fixed.M (ok_fix T) hr T.Cases_fixed.b .nil pass0 (pa_cons (pv 4) (pa_cons (pv 2) (pa_cons pe_int pa_nil)))) pe_bl rfl)
      (pss_one (ps_dput (hu_of hr) (pv 3) (pe_meth (pv 0) T.cl_Cases T.Cases_fixed.M (ok_fix T) hr T.Cases_fixed.b .nil pass0 (pa_cons (pv 4) (pa_cons (pv 2) (pa_cons pe_int pa_nil)))) pe_bl rfl))))
    (pss_one (ps_ret (pe_callTy (call_listD rfl) (by rfl) T.b_list (by decide +kernel) (pa_cons (pv 3) pa_nil))))), ?_⟩)
  · obtain ⟨cs, pl, ps, v, rfl, _⟩ := h
    rfl
  · obtain ⟨cs, pl, ps, v, rfl, C, hp, hf, hv, hz, q⟩ := h
    intro d hd
    refine ⟨_, rfl, pl, rfl, ⟨_, SqL.of (Same.upd hd _ _ hp)⟩, for_list (K := K) (a := pl) (xs := nVs ps) (fun i σ H' => Same H H' ∧ H' d = some (.dK (dB ((ps.take i).foldl (fixT v) []))) ∧ ∃ u : Option V, σ = [some (.ref cs), some (.ref pl), some (nV v), some (.ref d), u]) ⟨Same.upd hd, upd_same, none, rfl⟩ (fun i σ H' _ ⟨s1, _, _⟩ => SqL.of (s1 _ _ hp)) ?_ ?_⟩
    · rintro i x σ H' hx ⟨s1, ed, u, rfl⟩
      obtain ⟨n, hn, rfl⟩ := nVs_at hx
      have hb : i < ps.length := (List.getElem?_eq_some_iff.mp hn).1
      have C1 := C.same s1
      obtain ⟨dx, y, nn, e1, e2, e3⟩ := id C1
      have hn1 := hf n (List.mem_of_getElem? hn)
      have l0 := fold_len v (ps.take i) []
      rw [List.length_take, List.length_nil] at l0
      refine ⟨_, rfl, _, rfl, cs, dx, _, rfl, e1, csF_m y nn (by decide +kernel), _, rfl, _, rfl, cs, n, v, 0, rfl, C1, hn1, hv, d, _, rfl, DPut.k (k := Sum.inl _) ed ?_, ?_⟩
      · unfold dB
        rw [List.length_map, sizeLine_eq]
        omega
      have S2 : ∀ {o : HO}, Same H (upd H' d o) := fun {o} b ob e => by
        rw [upd_ne (ne_of_none e hd)]
        exact s1 b ob e
      have C2 : ∀ {o : HO}, CasesAt a (upd H' d o) cs := fun {o} => C.same S2
      refine ⟨_, rfl, _, rfl, cs, dx, csF y nn, rfl, ?_, csF_m y nn (by decide +kernel), _, rfl, _, rfl, cs, n, v, 1, rfl, C2, hn1, hv, d, _, rfl, DPut.k (k := Sum.inl _) upd_same ?_, ?_⟩
      · rw [upd_ne (ne_of e1 ed (by simp))]
        exact e1
      · rw [dB_put]
        unfold dB
        rw [List.length_map, sizeLine_eq]
        have q1 := addP_len ((ps.take i).foldl (fixT v) []) (fixN n v (decide (0 = 1)))
        omega
      refine ⟨fun b ob e => ?_, ?_, some (nV n), rfl⟩
      · rw [upd_ne (ne_of_none e hd), upd_ne (ne_of_none e hd)]
        exact s1 b ob e
      · rw [upd_same, dB_put, dB_put, List.take_add_one, hn, List.foldl_append]
        rfl
    · rintro σ H' ⟨s1, ed, u, rfl⟩
      rw [nVs_len, List.take_length] at ed
      refine ⟨_, rfl, d, _, rfl, .inl ed, fun r hr2 => ?_⟩
      refine q _ r (Same.new s1 hr2) (Same.free s1 hr2) ?_
      rw [upd_same, dB_keys]
      rfl
end
end Ten
namespace Ten
open PySem PySem.Spec PyProof.Rows L2
/-! orders: the two tables. -/
theorem bootMin2 : bootBuiltins "min" = some (.builtin "min") := by decide +kernel
theorem bits_nat {d : Nat} (h : d ≠ 0) : Builtin.Int.intBits ((d : Nat) : Int) = Nat.log2 d + 1 := by
  unfold Builtin.Int.intBits
  rw [if_neg (by simpa using h), Int.natAbs_natCast]
theorem places_ne {d n : Nat} (h : d + 1 < 2 ^ n) : placesN d n ≠ [] := fun z => by
  have all : ∀ p, p < n → d.testBit p = true := fun p hp => by
    cases c : d.testBit p with
    | true => rfl
    | false =>
      have q := places_mem.mpr ⟨hp, c⟩
      rw [z] at q
      cases q
  have e : d &&& (2 ^ n - 1) = 2 ^ n - 1 := Nat.eq_of_testBit_eq fun p => by
    rw [Nat.testBit_and, Nat.testBit_two_pow_sub_one]
    by_cases hp : p < n
    · rw [all p hp, decide_eq_true hp]
      rfl
    · rw [decide_eq_false hp, Bool.and_false]
  have q : d &&& (2 ^ n - 1) ≤ d := Nat.and_le_left
  omega
theorem RowsAt.snoc {H' : Hp} {q ad : Addr} {ads : List Addr} {rows : List (List Nat)} {r : List Nat} (hq : H' q = some (.lst ((ads ++ [ad]).map V.ref))) (z : ads.length = rows.length)
    (old : ∀ (i : Nat) (b : Addr) (t : List Nat), ads[i]? = some b → rows[i]? = some t → H' b = some (.lst (nVs t))) (new : H' ad = some (.lst (nVs r))) : RowsAt H' q (rows ++ [r]) := by
  refine ⟨ads ++ [ad], hq, by simp [z], fun i b t e1 e2 => ?_⟩
  by_cases c : i < ads.length
  · rw [List.getElem?_append_left c] at e1
    rw [List.getElem?_append_left (by omega)] at e2
    exact old i b t e1 e2
  · have l1 := (List.getElem?_eq_some_iff.mp e1).1
    rw [List.length_append, List.length_singleton] at l1
    obtain rfl : i = ads.length := by omega
    rw [List.getElem?_append_right (Nat.le_refl _), Nat.sub_self] at e1
    rw [List.getElem?_append_right (by omega), z, Nat.sub_self] at e2
    cases e1
    cases e2
    exact new
section
variable {P : Program} {w : World} {K : PySem.W.Frag} {mg : Str → Option Value} {base : Heap} {a : Ad}
/-! ### parts_by_done -/
def spTab (a : Ad) : Sp := fun vs H Q _ => ∃ (cs vl : Addr) (f : Nat) (l : List Nat), vs = [.ref cs, nV f, .ref vl] ∧ CasesAt a H cs ∧ H vl = some (.lst (nVs l)) ∧ f < Full ∧ l.length ≤ 5 ∧ (∀ v ∈ l, v < 10) ∧
  ∀ H' q, Same H H' → H q = none → RowsAt H' q (tabN f l (2 ^ l.length - 1)) → Q (.ref q) H'
theorem scTab : FnScope ["cases", "function", "variables", "table", "done", "last", "earlier"] ["cases", "function", "variables"] (defScope s_parts_by_done) := ⟨rfl, rfl, rfl, by decide +kernel, rfl, by decide +kernel, by decide +kernel⟩
theorem ok_tab (T : Txt K mg a) : FnOk P w K mg base CX0 3 a.f_parts_by_done a.d_parts_by_done ["cases", "function", "variables"] (spTab a) := by
  refine T.parts_by_done.F.ok scTab (fun vs H Q E h => ?_) (fun cdv A outer s H vs Q E hr h => ⟨_, pss_cons (ps_set (i := 3) scTab.nd rfl (.inl rfl) (pe_lst (pa_cons (pe_lst (pa_cons (pv 1) pa_nil)) pa_nil)))
    (pss_cons (ps_for PassesOwn.never rfl (pi_range2 (by rfl) T.b_range (pa_cons pe_int (pa_cons (pe_op opn_shl pe_int (pe_callB call_len_seq (by rfl) T.b_len PySem.boot_len (pa_cons (pv 2) pa_nil))) pa_nil))) (pg_name (i := 4) scTab.nd rfl (.inl rfl))
      (pss_cons (ps_set (i := 5) scTab.nd rfl (.inl rfl) (pe_op op_subN (pe_bits (pv 4)) pe_int))
      (pss_cons (ps_set (i := 6) scTab.nd rfl (.inl rfl) (pe_ix ix_list (pv 3) (pe_op opn_xor (pv 4) (pe_op opn_shl pe_int (pv 5))) (fun _ _ => rfl)))
      (pss_one (ps_expr (pe_bm PySem.F.plainAttrs_list PySem.F.slot_list_append PySem.F.type_list_append mt_append (pv 3) (pa_cons (pe_call (ok_fp T) hr rfl T.fixed_parts.g T.fixed_parts.F.kp T.fixed_parts.b .nil pass0 (pa_cons (pv 0) (pa_cons (pv 6) (pa_cons (pe_ix ix_list (pv 2) (pv 5) (fun _ _ => rfl)) pa_nil)))) pa_nil)))))))
    (pss_one (ps_ret (pv 3)))), ?_⟩)
  · obtain ⟨cs, vl, f, l, rfl, _⟩ := h
    rfl
  · obtain ⟨cs, vl, f, l, rfl, C, hl, hf, hn, hv, q⟩ := h
    refine ⟨_, rfl, (by show 1 ≤ sizeLine; decide), fun b hb => ⟨(by show 1 ≤ sizeLine; decide), fun t ht => ?_⟩⟩
    have S1 : Same H _ := Same.upd (o := .lst [nV f]) hb
    have S2 := Same.new S1 (o := .lst [V.ref b]) ht
    have ht0 : H t = none := Same.free S1 ht
    have p5 : 2 ^ l.length ≤ 32 := Nat.pow_le_pow_right (n := 2) (i := l.length) (j := 5) (by decide) hn
    have p1 := Nat.two_pow_pos l.length
    refine ⟨_, rfl, vl, _, rfl, .inl (SqL.of (S2 _ _ hl)), 1, l.length, 1, rfl, by rw [nVs_len], by decide, by omega, ?_⟩
    rw [Nat.one_shiftLeft]
    refine ⟨1, ((2 ^ l.length : Nat) : Int), rfl, ⟨by omega, by omega, by omega, by omega⟩, ?_⟩
    refine for_range (lo := 1) (n := (((2 ^ l.length : Nat) : Int) - 1).toNat) (fun i σ H' => Same H H' ∧ RowsAt H' t (tabN f l i) ∧ ∃ v4 v5 v6 : Option V, σ = [some (.ref cs), some (nV f), some (.ref vl), some (.ref t), v4, v5, v6]) ⟨S2, ?_, none, none, none, rfl⟩ ?_ ?_
    · refine ⟨[b], upd_same, by rw [tabN_len]; rfl, fun i ad r e1 e2 => ?_⟩
      cases i with
      | zero =>
        cases e1
        rw [tabN_at f l (Nat.le_refl 0), pR_zero] at e2
        cases e2
        exact Same.upd ht _ _ upd_same
      | succ i => cases e1
    · rintro i σ H' hi ⟨s1, R, v4, v5, v6, rfl⟩
      have ei : (1 : Int) + (i : Int) = ((i + 1 : Nat) : Int) := by omega
      rw [ei]
      have nz : i + 1 ≠ 0 := by omega
      have hi2 : i + 1 < 2 ^ l.length := by omega
      have g1 := log_le nz
      have g2 := log_hi (i + 1)
      have g3 : Nat.log2 (i + 1) < l.length := (Nat.pow_lt_pow_iff_right (by decide : 1 < 2)).mp (Nat.lt_of_le_of_lt g1 hi2)
      have hlt := log_lt nz
      have C1 := C.same s1
      obtain ⟨xs, ad, r1, r2, r3⟩ := R.at (tabN_at f l (show i + 1 - 2 ^ Nat.log2 (i + 1) ≤ i by omega))
      have ev : l[Nat.log2 (i + 1)]? = some l[Nat.log2 (i + 1)] := List.getElem?_eq_getElem g3
      have eg : l.getD (Nat.log2 (i + 1)) 0 = l[Nat.log2 (i + 1)] := by
        rw [List.getD_eq_getElem?_getD, ev]
        rfl
      refine ⟨_, rfl, _, rfl, Builtin.Int.intBits ((i + 1 : Nat) : Int), 1, rfl, rfl, by rw [bits_nat nz]; omega, ?_⟩
      rw [show Builtin.Int.intBits ((i + 1 : Nat) : Int) - 1 = Nat.log2 (i + 1) by rw [bits_nat nz]; omega]
      refine ⟨_, rfl, _, rfl, _, rfl, 1, Nat.log2 (i + 1), 1, rfl, rfl, by decide, by omega, _, _, rfl, rfl, t, xs, _, .ref ad, rfl, rfl, SqL.of r1, at_nat (by rw [xor_top nz]; exact r2), ?_⟩
      obtain ⟨ads, a1, a2, a3⟩ := R
      refine ⟨_, rfl, .inl ⟨rfl, _, SqL.of a1⟩, _, rfl, _, rfl, _, rfl, _, rfl, vl, _, Nat.log2 (i + 1), nV l[Nat.log2 (i + 1)], rfl, rfl, SqL.of (s1 _ _ hl), at_nat (nVs_get ev), ?_⟩
      have lb := pR_len f l 5 (i + 1 - 2 ^ Nat.log2 (i + 1)) (Nat.lt_of_lt_of_le (show i + 1 - 2 ^ Nat.log2 (i + 1) < 2 ^ l.length by omega) (show 2 ^ l.length ≤ 2 ^ 5 from p5))
      refine ⟨cs, ad, _, l[Nat.log2 (i + 1)], rfl, C1, r3, pR_lt hf hv _, hv _ (List.getElem_mem g3), Nat.le_trans lb (by decide), fun H3 r S3 hr3 e3 => ?_⟩
      have ntr : t ≠ r := ne_of_none a1 hr3
      refine ⟨t, _, .ref r, rfl, rfl, S3 _ _ a1, ?_, fun b o e => ?_, ?_, some (nV (i + 1)), some (nV (Nat.log2 (i + 1))), some (.ref ad), rfl⟩
      · rw [List.length_map, a2, tabN_len, sizeLine_eq]
        omega
      · rw [upd_ne (ne_of_none e ht0)]
        exact S3 _ _ (s1 _ _ e)
      · rw [tabN_next]
        have ents : ∀ {b : Addr} {o : HO}, H' b = some o → b ≠ t → upd H3 t (.lst (ads.map V.ref ++ [V.ref r])) b = some o := fun {b o} e nb => by
          rw [upd_ne nb]
          exact S3 _ _ e
        refine RowsAt.snoc (ads := ads) (ad := r) ?_ a2 (fun k b u e1 e2 => ?_) ?_
        · rw [upd_same, List.map_append]
          rfl
        · have z := a3 k b u e1 e2
          refine ents z (ne_of z a1 fun q2 => ?_)
          injection q2 with q2
          have lu : ads.length = i + 1 := by rw [a2, tabN_len]
          cases ads with
          | nil => cases e1
          | cons x y =>
            cases u with
            | nil => cases q2
            | cons c d =>
              injection q2 with q2
              cases q2
        · rw [upd_ne (Ne.symm ntr), e3, pR_next f l nz, eg]
    · rintro σ H' ⟨s1, R, v4, v5, v6, rfl⟩
      have e : (((2 ^ l.length : Nat) : Int) - 1).toNat = 2 ^ l.length - 1 := by omega
      rw [e] at R
      exact ⟨_, rfl, q H' t s1 ht0 R⟩
/-! ### fewest_nodes -/
theorem flat_rep (n : Nat) (v : V) : (List.replicate n [v]).flatten = List.replicate n v := by
  induction n with
  | zero => rfl
  | succ n ih => rw [List.replicate_succ, List.flatten_cons, ih]; rfl
theorem nVs_rep (n x : Nat) : nVs (List.replicate n x) = List.replicate n (nV x) := by
  unfold nVs
  rw [List.map_replicate]
def spFew : Sp := fun vs H Q _ => ∃ (nn : Addr) (rows : List (List Nat)) (n : Nat), vs = [.ref nn, nV n] ∧ RowsAt H nn rows ∧ rows.length = 2 ^ n ∧ (∀ r ∈ rows, r.length = n) ∧ n ≤ 5 ∧
  ∀ H' q, Same H H' → H q = none → H' q = some (.lst (nVs (fewN rows n (2 ^ n - 1)))) → Q (.ref q) H'
theorem scFew : FnScope ["next_nodes", "length", "all_done", "fewest", "done", "place"] ["next_nodes", "length"] (defScope s_fewest_nodes) := ⟨rfl, rfl, rfl, by decide +kernel, rfl, by decide +kernel, by decide +kernel⟩
theorem ok_few (T : Txt K mg a) : FnOk P w K mg base CX0 2 a.f_fewest_nodes a.d_fewest_nodes ["next_nodes", "length"] spFew := by
  refine T.fewest_nodes.F.ok scFew (fun vs H Q E h => ?_) (fun cdv A outer s H vs Q E hr h => ⟨_, pss_cons (ps_set (i := 2) scFew.nd rfl (.inl rfl) (pe_op op_subN (pe_op opn_shl pe_int (pv 1)) pe_int))
    (pss_cons (ps_set (i := 3) scFew.nd rfl (.inr rfl) (pe_op op_rep (pe_lst (pa_cons pe_int pa_nil)) (pe_op op_addN (pv 2) pe_int)))
    (pss_cons (ps_for PassesOwn.never rfl (pi_range3 rfl T.b_range (pa_cons (pe_op op_sub (pv 2) pe_int) (pa_cons (pe_un un_neg pe_int) (pa_cons (pe_un un_neg pe_int) pa_nil)))) (pg_name (i := 4) scFew.nd rfl (.inr rfl))
      (pss_one (ps_asg (pe_callB (cr_min rfl) (by rfl) T.b_min bootMin2 (pa_cons (pe_lc (own := [("place", 5)]) (g := gName 5) (tt := tYes) rfl scFew.nd
        (pi_list (pe_call (ok_pl T) hr rfl T.places_left.g T.places_left.F.kp T.places_left.b .nil pass0 (pa_cons (pv 4) (pa_cons (pv 1) pa_nil))))
        (blkOk_by (N := ["next_nodes", "length", "all_done", "fewest", "done", "place"]) (sc := defScope s_fewest_nodes) (by decide +kernel)) (fun _ _ _ _ _ => pg_name (i := 5) scFew.nd rfl (Or.inl rfl)) (fun _ _ _ _ _ => pts_nil)
        (fun _ _ _ _ _ => pe_call (ok_thr T) hr rfl T.nodes_through.g T.nodes_through.F.kp T.nodes_through.b .nil pass0 (pa_cons (pv 0) (pa_cons (pv 3) (pa_cons (pv 4) (pa_cons (pv 5) pa_nil)))))) pa_nil))
        (pg_sub (pv 3) (pv 4) set_list))))
    (pss_one (ps_ret (pv 3))))), ?_⟩)
  · obtain ⟨nn, rows, n, rfl, _⟩ := h
    rfl
  · obtain ⟨nn, rows, n, rfl, R, hz, hrl, hn, q⟩ := h
    have p5 : 2 ^ n ≤ 32 := Nat.pow_le_pow_right (n := 2) (i := n) (j := 5) (by decide) hn
    have p1 := Nat.two_pow_pos n
    refine ⟨_, rfl, 1, n, 1, rfl, rfl, by decide, by omega, _, 1, rfl, rfl, by rw [Nat.one_shiftLeft]; omega, ?_⟩
    rw [Nat.one_shiftLeft]
    refine ⟨(by show 1 ≤ sizeLine; decide), fun l hl => ?_⟩
    have S1 : Same H _ := Same.upd (o := .lst [V.int 0]) hl
    refine ⟨_, rfl, _, _, rfl, rfl, l, (((2 ^ n - 1 : Nat) : Int) + ((1 : Nat) : Int)), _, rfl, rfl, upd_same, by omega, by omega, ?_, fun r hr2 => ?_⟩
    · show 1 * (((2 ^ n - 1 : Nat) : Int) + ((1 : Nat) : Int)).toNat ≤ sizeLine
      rw [sizeLine_eq]
      omega
    have S2 := Same.new S1 (o := .lst (List.replicate (((2 ^ n - 1 : Nat) : Int) + ((1 : Nat) : Int)).toNat [V.int 0]).flatten) hr2
    have hr0 : H r = none := Same.free S1 hr2
    have e0 : upd (upd H l (.lst [V.int 0])) r (.lst (List.replicate (((2 ^ n - 1 : Nat) : Int) + ((1 : Nat) : Int)).toNat [V.int 0]).flatten) r = some (.lst (nVs (fewN rows n 0))) := by
      rw [upd_same, flat_rep, show (((2 ^ n - 1 : Nat) : Int) + ((1 : Nat) : Int)).toNat = 2 ^ n by omega]
      unfold fewN
      rw [nVs_rep]
      rfl
    refine ⟨_, rfl, _, _, rfl, rfl, 1, rfl, 1, rfl, _, _, _, _, rfl, RgC.neg (by omega) (by omega) (by omega) (by omega), ?_⟩
    refine for_rangeC (lo := ((2 ^ n - 1 : Nat) : Int) - 1) (c := -1) (n := (((2 ^ n - 1 : Nat) : Int) - 1 - (-1)).toNat) (fun i σ H' => Same H H' ∧ H' r = some (.lst (nVs (fewN rows n i))) ∧ ∃ v4 v5 : Option V, σ = [some (.ref nn), some (nV n), some (nV (2 ^ n - 1)), some (.ref r), v4, v5]) ⟨S2, e0, none, none, rfl⟩ ?_ ?_
    · rintro i σ H' hi ⟨s1, er, v4, v5, rfl⟩
      have hi2 : i < 2 ^ n - 1 := by omega
      have ei : ((2 ^ n - 1 : Nat) : Int) - 1 + (i : Int) * (-1) = ((2 ^ n - 2 - i : Nat) : Int) := by omega
      rw [ei]
      obtain ⟨d, hd⟩ : ∃ d, d = 2 ^ n - 2 - i := ⟨_, rfl⟩
      rw [← hd]
      have hdn : d + 1 < 2 ^ n := by omega
      have ne := places_ne hdn
      have ed : rows[d]? = some rows[d] := List.getElem?_eq_getElem (by omega)
      have lw : rows[d].length = n := hrl _ (List.getElem_mem _)
      have lf := fewN_len rows n i
      refine ⟨_, rfl, _, rfl, d, n, rfl, by omega, fun H2 p S2 hp ep => ?_⟩
      have s2 : Same H H2 := s1.trans S2
      have R2 := R.same s2
      have er2 := S2 _ _ er
      refine ⟨p, rfl, ⟨_, SqL.of ep⟩, fun D hD => lc_list (K := K) (a := p) (xs := nVs (placesN d n)) (fun j H3 => Same H2 H3 ∧ H3 D = some (.lst (nVs (((placesN d n).take j).map (thrN rows (fewN rows n i) d))))) ⟨Same.upd hD, upd_same⟩ (fun j H3 _ ⟨s3, _⟩ => SqL.of (s3 _ _ ep)) ?_ ?_⟩
      · rintro j x H3 hx ⟨s3, eD⟩
        obtain ⟨m, hm, rfl⟩ := nVs_at hx
        obtain ⟨hmn, hmb⟩ := places_mem.mp (List.mem_of_getElem? hm)
        have hor := or_lt (show d < 2 ^ n by omega) hmn
        have em : rows[d][m]? = some (rows[d][m]'(by omega)) := List.getElem?_eq_getElem (by omega)
        have ef : (fewN rows n i)[d ||| (1 <<< m)]? = some ((fewN rows n i)[d ||| (1 <<< m)]'(by omega)) := List.getElem?_eq_getElem (by omega)
        have et : thrN rows (fewN rows n i) d m = rows[d][m]'(by omega) + (fewN rows n i)[d ||| (1 <<< m)]'(by omega) := by
          unfold thrN
          rw [List.getD_eq_getElem?_getD, List.getD_eq_getElem?_getD, List.getD_eq_getElem?_getD, ed, ef]
          show (rows[d][m]?).getD 0 + _ = _
          rw [em]
          rfl
        refine ⟨rfl, _, rfl, _, rfl, _, rfl, _, rfl, nn, r, rows, rows[d], fewN rows n i, d, m, _, _, rfl, R2.same s3, s3 _ _ er2, ed, em, ef, by omega, _, eD, ?_, fun b o e => ?_, ?_⟩
        · rw [nVs_len, List.length_map, List.length_take, sizeLine_eq]
          have := (List.getElem?_eq_some_iff.mp hm).1
          have l2 : (placesN d n).length ≤ n := Nat.le_trans (List.length_filter_le _ _) (by rw [List.length_range]; exact Nat.le_refl _)
          omega
        · rw [upd_ne (ne_of_none e hD)]
          exact s3 b o e
        · rw [upd_same, List.take_add_one, hm, List.map_append, ← nVs_app]
          show _ = some (HO.lst (_ ++ nVs [thrN rows (fewN rows n i) d m]))
          rw [et]
          rfl
      · rintro H3 ⟨s3, eD⟩
        rw [nVs_len, List.take_length, nVs_ints] at eD
        refine ⟨D, _, rfl, SqL.of eD, ?_, fun m hm hle => ?_⟩
        · rw [List.length_map, List.length_map]
          exact List.length_pos_iff.mpr ne
        obtain ⟨x, hx, rfl⟩ := List.mem_map.mp hm
        have ex : x = leastOf ((placesN d n).map (thrN rows (fewN rows n i) d)) := leastOf_eq hx fun y hy => by
          have q := hle ((y : Nat) : Int) (List.mem_map.mpr ⟨y, hy, rfl⟩)
          omega
        refine ⟨_, rfl, _, rfl, r, _, d, d, rfl, rfl, s3 _ _ er2, ixN_nat (by rw [nVs_len, lf]; omega), fun b o e => ?_, ?_, some (nV d), v5, rfl⟩
        · rw [upd_ne (ne_of_none e hr0)]
          exact s3 _ _ (s2 _ _ e)
        · rw [upd_same, nVs_set, ex, hd]
          rfl
    · rintro σ H' ⟨s1, er, v4, v5, rfl⟩
      rw [show (((2 ^ n - 1 : Nat) : Int) - 1 - (-1)).toNat = 2 ^ n - 1 by omega] at er
      exact ⟨_, rfl, q H' r s1 hr0 er⟩
end
end Ten
namespace Ten
open PySem PySem.Spec PyProof.Rows L2 LamX
/-! orders: best_next. -/
section
variable {P : Program} {w : World} {K : PySem.W.Frag} {mg : Str → Option Value} {base : Heap} {a : Ad}
/-- the rule for a def whose code object is asked for -/
theorem fun_okC {x qual : Str} {st : Stmt} {f : Addr} {fd : FuncData} {N ps : List Str} {k : Nat} {sp : Sp} (F : L2.Fun K x qual st f fd) (S : FnScope N ps (defScope st)) (len : ∀ vs H Q E, sp vs H Q E → vs.length = ps.length)
    (body : ∀ (cdv : Value) (A : Around) (outer : List Env) (s : Shared) (H : Hp) (vs : List V) (Q : VK) (E : XK), fd.code = cdv → (∃ oc od osl, K.lookup f = some ⟨oc, od, .func fd, osl⟩) → Room k (A.deeper (envOfC qual (defScope st) s.heap.objs.size f cdv)) → sp vs H Q E →
      ∃ t, PSs (cxOf CX0 P w K mg base N qual (defScope st) f cdv A outer s H E).nox (defBody st) t ∧ t { nx := fun _ H' => Q .non H', rt := Q } (start N vs) H) : FnOk P w K mg base CX0 (k + 1) f fd ps sp := by
  obtain ⟨oc, od, kV, doc, pm, an, cdv, ct, osl, rfl, lk, hcd⟩ := F.ex
  refine fn_of lk hcd S len fun A outer s H vs Q E hr hsp => ?_
  have q := body cdv A outer s H vs Q E rfl ⟨oc, od, osl, lk⟩ hr hsp
  exact ⟨q.choose, q.choose_spec.1.nox, q.choose_spec.2⟩
theorem code_best (T : Txt K mg a) (M : L2.Mod K mg base) {fd : FuncData} (lk : ∃ oc od osl, K.lookup a.f_best_next = some ⟨oc, od, .func fd, osl⟩) : fd.code = .ref a.k_best := by
  obtain ⟨oc, od, osl, lk⟩ := lk
  have h := T.tb
  unfold PySem.W.tabIn at h
  split at h
  · rename_i f hf
    have e1 := PySem.W.mg_of M.kin M.glob hf
    have e2 := T.best_next.g
    rw [e1] at e2
    cases e2
    rw [lk] at h
    simp only at h
    split at h
    · rename_i c hc
      split at h
      · split at h
        · cases h
          exact hc
        · cases h
      · cases h
    · cases h
  · cases h
def TB0 (a : Ad) : List (Addr × Str) := [(a.p_best, ("best_next" : Str) ++ ".<locals>." ++ "<lambda>")]
theorem RowsAt.extN {H H' : Hp} {q : Addr} {rows : List (List Nat)} (R : RowsAt H q rows) (s : ExtN H H') : RowsAt H' q rows := by
  obtain ⟨ads, e1, e2, e3⟩ := R
  exact ⟨ads, s _ _ e1 (fun _ z => by cases z), e2, fun i ad r x y => s _ _ (e3 i ad r x y) (fun _ z => by cases z)⟩
def spBn (a : Ad) : Sp := fun vs H Q _ => ∃ (nn fw : Addr) (rows : List (List Nat)) (f : List Nat) (d n : Nat), vs = [.ref nn, .ref fw, nV d, nV n] ∧ Tabs (TB0 a) H ∧ RowsAt H nn rows ∧ H fw = some (.lst (nVs f)) ∧ rows.length = 2 ^ n ∧ (∀ r ∈ rows, r.length = n) ∧ f.length = 2 ^ n ∧ d < 2 ^ n ∧ placesN d n ≠ [] ∧ n ≤ 5 ∧
  ∀ H', ExtN H H' → Tabs (TB0 a) H' → Q (nV (nxtN rows f n d)) H'
theorem scBn : FnScope ["next_nodes", "fewest", "done", "length"] ["next_nodes", "fewest", "done", "length"] (defScope s_best_next) := ⟨rfl, rfl, rfl, by decide +kernel, rfl, by decide +kernel, by decide +kernel⟩
theorem ok_bn (T : Txt K mg a) (TB : TabB base mg a.k_best a.p_best) : FnOk P w K mg base CX0 4 a.f_best_next a.d_best_next ["next_nodes", "fewest", "done", "length"] (spBn a) := by
  refine fun_okC T.best_next.F scBn (fun vs H Q E h => ?_) (fun cdv A outer s H vs Q E hcd lk hr h => ⟨_, pss_one (ps_ret (pe_minL (x := "place") (c := a.k_best) (P := a.p_best) (k := 1) rfl T.b_min TB (fun M => hcd.symm.trans (code_best T M lk)) hr (show Lam1 "place" (defScope s_best_next) _ from lam1_by (by decide +kernel)) (show ¬ ("place" : Str) ∈ (["next_nodes", "fewest", "done", "length"] : List Str) by decide +kernel) rfl (fun _ _ _ _ _ _ => rfl)
    (pe_call (ok_pl T) (hr.mono (by decide)) rfl T.places_left.g T.places_left.F.kp T.places_left.b .nil pass0 (pa_cons (pv 2) (pa_cons (pv 3) pa_nil)))
    (fun A s H f c' hr2 => pe_call (ok_thr T) hr2 rfl T.nodes_through.g T.nodes_through.F.kp T.nodes_through.b .nil pass0 (pa_cons (pv 1) (pa_cons (pv 2) (pa_cons (pv 3) (pa_cons (pv 0) pa_nil))))))), ?_⟩)
  · obtain ⟨nn, fw, rows, f, d, n, rfl, _⟩ := h
    rfl
  · obtain ⟨nn, fw, rows, f, d, n, rfl, hT, R, hf, z1, z2, z3, hd, ne, hn, q⟩ := h
    refine ⟨_, rfl, _, rfl, d, n, rfl, by omega, fun H2 p S2 hp ep => ?_⟩
    refine ⟨p, nVs (placesN d n), fun i => thrN rows f d ((placesN d n).getD i 0), rfl, hT.ext S2, ep, ?_, fun H3 x3 T3 => ⟨fun i v H4 hv S4 => ?_, fun i v H4 hv hl S4 => ?_⟩⟩
    · rw [nVs_len]
      exact List.length_pos_iff.mpr ne
    · obtain ⟨m, hm, rfl⟩ := nVs_at hv
      obtain ⟨hmn, hmb⟩ := places_mem.mp (List.mem_of_getElem? hm)
      have hor := or_lt hd hmn
      have lw : rows[d].length = n := z2 _ (List.getElem_mem _)
      have ed : rows[d]? = some rows[d] := List.getElem?_eq_getElem (by omega)
      have em : rows[d][m]? = some (rows[d][m]'(by omega)) := List.getElem?_eq_getElem (by omega)
      have ef : f[d ||| (1 <<< m)]? = some (f[d ||| (1 <<< m)]'(by omega)) := List.getElem?_eq_getElem (by omega)
      have eg : (placesN d n).getD i 0 = m := by
        rw [List.getD_eq_getElem?_getD, hm]
        rfl
      have et : thrN rows f d m = rows[d][m]'(by omega) + f[d ||| (1 <<< m)]'(by omega) := by
        unfold thrN
        rw [List.getD_eq_getElem?_getD, List.getD_eq_getElem?_getD, List.getD_eq_getElem?_getD, ed, ef]
        show (rows[d][m]?).getD 0 + _ = _
        rw [em]
        rfl
      have X1 : ExtN H H4 := (ExtN.of S2).trans (x3.trans (ExtN.of S4))
      refine ⟨_, rfl, _, rfl, _, rfl, _, rfl, nn, fw, rows, rows[d], f, d, m, _, _, rfl, R.extN X1, X1 _ _ hf (fun _ z => by cases z), ed, em, ef, by omega, ?_, rfl⟩
      show nV (_ + _) = nV (thrN rows f d ((placesN d n).getD i 0))
      rw [eg, et]
    · obtain ⟨m, hm, rfl⟩ := nVs_at hv
      rw [nVs_len] at hl
      have e : m = nxtN rows f n d := by
        refine firstBy_at (thrN rows f d) _ i m hm fun j y hy => ?_
        have hj := (List.getElem?_eq_some_iff.mp hy).1
        have q := hl j hj
        simp only [List.getD_eq_getElem?_getD, hm, hy] at q
        exact q
      rw [e]
      exact q H4 ((ExtN.of S2).trans (x3.trans (ExtN.of S4))) (T3.ext S4)
end
end Ten
namespace Ten
open PySem PySem.Spec PyProof.Rows L2 LamX
/-! orders: best_order. -/
theorem pR_pos (f : Nat) (vs : List Nat) (d : Nat) : (pR f vs d).length ≠ 0 := by
  induction d using Nat.strongRecOn with
  | _ d ih =>
    by_cases h0 : d = 0
    · rw [h0, pR_zero]
      exact Nat.one_ne_zero
    · rw [pR_next f vs h0]
      have q := ih _ (log_lt h0)
      intro z
      have z2 := List.eq_nil_of_length_eq_zero z
      obtain ⟨p, hp⟩ := List.exists_mem_of_ne_nil (pR f vs (d - 2 ^ Nat.log2 d)) (fun e => q (by rw [e]; rfl))
      have m : fixN p (vs.getD (Nat.log2 d) 0) false ∈ fixedP (pR f vs (d - 2 ^ Nat.log2 d)) (vs.getD (Nat.log2 d) 0) := fixedP_mem.mpr ⟨p, hp, false, rfl⟩
      rw [z2] at m
      cases m
theorem ordN_len (rows : List (List Nat)) (fw vs : List Nat) : ∀ j, (ordN rows fw vs j).length = j
  | 0 => rfl
  | j + 1 => by
    show (ordN rows fw vs j ++ [_]).length = _
    rw [List.length_append, ordN_len rows fw vs j]
    rfl
theorem tabs_lst {T : List (Addr × Str)} {H : Hp} {x : Addr} {xs : List V} {o : HO} (h : Tabs T H) (e : H x = some (.lst xs)) : Tabs T (upd H x o) := fun p hp => by
  obtain ⟨ps, h1, h2, h3⟩ := h p hp
  refine ⟨ps, ?_, h2, fun pos cv hc => ?_⟩
  · rw [upd_ne (ne_of h1 e (by simp))]
    exact h1
  · obtain ⟨c, e1, e2⟩ := h3 pos cv hc
    refine ⟨c, e1, ?_⟩
    rw [upd_ne (ne_of e2 e fun z => by unfold CodeO at z; cases z)]
    exact e2
theorem refs_ne {ads : List Addr} {i : Nat} {b : Addr} (h : ads[i]? = some b) (u : List Nat) : (nVs u : List V) ≠ ads.map V.ref := fun z => by
  cases ads with
  | nil => cases h
  | cons x y =>
    cases u with
    | nil => cases z
    | cons c d =>
      injection z with z
      cases z
theorem rowsB_len (f : Nat) (l : List Nat) : (rowsB f l).length = 2 ^ l.length := by
  unfold rowsB
  rw [List.length_map, tabN_len]
  have := Nat.two_pow_pos l.length
  omega
theorem rowsB_row (f : Nat) (l : List Nat) : ∀ r ∈ rowsB f l, r.length = l.length := fun r hr => by
  unfold rowsB at hr
  obtain ⟨ps, _, rfl⟩ := List.mem_map.mp hr
  unfold rowN
  exact List.length_map _
section
variable {P : Program} {w : World} {K : PySem.W.Frag} {mg : Str → Option Value} {base : Heap} {a : Ad}
def spBo (a : Ad) : Sp := fun vs H Q _ => ∃ (cs vl : Addr) (f : Nat) (l : List Nat), vs = [.ref cs, nV f, .ref vl] ∧ Tabs (TB0 a) H ∧ CasesAt a H cs ∧ H vl = some (.lst (nVs l)) ∧ f < Full ∧ l.length ≤ 5 ∧ (∀ v ∈ l, v < 10) ∧
  ∀ H' t o, ExtN H H' → Tabs (TB0 a) H' → H o = none → H' t = some (.tup [nV (bestN f l).1, .ref o]) → H' o = some (.lst (nVs (bestN f l).2)) → Q (.ref t) H'
theorem scBo : FnScope ["cases", "function", "variables", "length", "next_nodes", "parts", "variable", "fewest", "order", "done", "place"] ["cases", "function", "variables"] (defScope s_best_order) := ⟨rfl, rfl, rfl, by decide +kernel, rfl, by decide +kernel, by decide +kernel⟩
theorem ok_bo (T : Txt K mg a) (TB : TabB base mg a.k_best a.p_best) : FnOk P w K mg base CX0 5 a.f_best_order a.d_best_order ["cases", "function", "variables"] (spBo a) := by
  refine T.best_order.F.ok scBo (fun vs H Q E h => ?_) (fun cdv A outer s H vs Q E hr h => ⟨_, pss_cons (ps_set (i := 3) scBo.nd rfl (.inl rfl) (pe_callB call_len_seq (by rfl) T.b_len PySem.boot_len (pa_cons (pv 2) pa_nil)))
    (pss_cons (ps_set (i := 4) scBo.nd rfl (.inl rfl) (pe_lst pa_nil))
    (pss_cons (ps_for PassesOwn.never rfl (pi_list (pe_call (ok_tab T) (hr.mono (by decide)) rfl T.parts_by_done.g T.parts_by_done.F.kp T.parts_by_done.b .nil pass0 (pa_cons (pv 0) (pa_cons (pv 1) (pa_cons (pv 2) pa_nil))))) (pg_name (i := 5) scBo.nd rfl (.inr rfl))
      (pss_one (ps_expr (pe_bm PySem.F.plainAttrs_list PySem.F.slot_list_append PySem.F.type_list_append mt_append (pv 4) (pa_cons (pe_lc (own := [("variable", 6)]) (g := gName 6) (tt := tYes) rfl scBo.nd (pi_list (pv 2))
        (blkOk_by (N := ["cases", "function", "variables", "length", "next_nodes", "parts", "variable", "fewest", "order", "done", "place"]) (sc := defScope s_best_order) (by decide +kernel)) (fun _ _ _ _ _ => pg_name (i := 6) scBo.nd rfl (Or.inl rfl)) (fun _ _ _ _ _ => pts_nil)
        (fun _ _ _ _ _ => pe_call (ok_nx T) (hr.mono (by decide)) rfl T.nodes_next.g T.nodes_next.F.kp T.nodes_next.b .nil pass0 (pa_cons (pv 0) (pa_cons (pv 5) (pa_cons (pv 6) pa_nil))))) pa_nil)))))
    (pss_cons (ps_set (i := 7) scBo.nd rfl (.inl rfl) (pe_call (ok_few T) (hr.mono (by decide)) rfl T.fewest_nodes.g T.fewest_nodes.F.kp T.fewest_nodes.b .nil pass0 (pa_cons (pv 4) (pa_cons (pv 3) pa_nil))))
    (pss_cons (ps_set (i := 8) scBo.nd rfl (.inl rfl) (pe_lst pa_nil))
    (pss_cons (ps_set (i := 9) scBo.nd rfl (.inl rfl) pe_int)
    (pss_cons (ps_while PassesOwn.never (pt_cmpR opn_lt (pe_callB call_len_seq (by rfl) T.b_len PySem.boot_len (pa_cons (pv 8) pa_nil)) (pv 3) (nomark _))
      (pss_cons (ps_set (i := 10) scBo.nd rfl (.inl rfl) (pe_call (ok_bn T TB) hr rfl T.best_next.g T.best_next.F.kp T.best_next.b .nil pass0 (pa_cons (pv 4) (pa_cons (pv 7) (pa_cons (pv 9) (pa_cons (pv 3) pa_nil))))))
      (pss_cons (ps_expr (pe_bm PySem.F.plainAttrs_list PySem.F.slot_list_append PySem.F.type_list_append mt_append (pv 8) (pa_cons (pe_ix ix_list (pv 2) (pv 10) (fun _ _ => rfl)) pa_nil)))
      (pss_one (ps_set (i := 9) scBo.nd rfl (.inl rfl) (pe_op opn_or (pv 9) (pe_op opn_shl pe_int (pv 10))))))))
    (pss_one (ps_ret (pe_tup (pa_cons (pe_ix ix_list (pv 7) pe_int (fun _ _ => rfl)) (pa_cons (pv 8) pa_nil))))))))))), ?_⟩)
  · obtain ⟨cs, vl, f, l, rfl, _⟩ := h
    rfl
  · obtain ⟨cs, vl, f, l, rfl, hT, C, hl, hf, hn, hv, q⟩ := h
    have p5 : 2 ^ l.length ≤ 32 := Nat.pow_le_pow_right (n := 2) (i := l.length) (j := 5) (by decide) hn
    have p1 := Nat.two_pow_pos l.length
    refine ⟨_, rfl, vl, _, rfl, .inl (SqL.of hl), ?_⟩
    rw [nVs_len]
    refine ⟨(by show 0 ≤ sizeLine; decide), fun b hb => ?_⟩
    have S1 : Same H _ := Same.upd (o := .lst []) hb
    refine ⟨_, rfl, _, rfl, _, rfl, cs, vl, f, l, rfl, C.same S1, S1 _ _ hl, hf, hn, hv, fun H2 t S2 ht R => ?_⟩
    obtain ⟨ads, a1, a2, a3⟩ := id R
    have eb2 : H2 b = some (.lst []) := S2 _ _ upd_same
    refine ⟨t, rfl, ⟨_, SqL.of a1⟩, ?_⟩
    have S3 : Same H H2 := Same.trans S1 S2
    have hb2 : ∀ {c : Addr} {o : HO}, H c = some o → c ≠ b := fun e => ne_of_none e hb
    have tb : t ≠ b := fun z => by
      rw [z, upd_same] at ht
      cases ht
    have rows2 : ∀ i, i < 2 ^ l.length → ∃ ad, ads[i]? = some ad ∧ H2 ad = some (.lst (nVs (pR f l i))) ∧ ad ≠ b := fun i hi => by
      have hi2 : i < ads.length := by
        rw [a2, tabN_len]
        omega
      have z := a3 i _ _ (List.getElem?_eq_getElem hi2) (tabN_at f l (show i ≤ 2 ^ l.length - 1 by omega))
      refine ⟨_, List.getElem?_eq_getElem hi2, z, ne_of z eb2 fun z2 => ?_⟩
      injection z2 with z2
      have z3 := congrArg List.length z2
      rw [nVs_len, List.length_nil] at z3
      exact absurd z3 (pR_pos f l i)
    have la : ads.length = 2 ^ l.length := by
      rw [a2, tabN_len]
      omega
    refine for_list (K := K) (a := t) (xs := ads.map V.ref) (fun i σ H' => But H2 H' b ∧ RowsAt H' b (((tabN f l (2 ^ l.length - 1)).take i).map (rowN l)) ∧ ∃ v5 : Option V, σ = [some (.ref cs), some (nV f), some (.ref vl), some (nV l.length), some (.ref b), v5, none, none, none, none, none]) ⟨fun c o e _ => e, ⟨[], eb2, rfl, fun i ad r e1 _ => by cases e1⟩, none, rfl⟩ (fun i σ H' _ ⟨B, _, _⟩ => SqL.of (B _ _ a1 tb)) ?_ ?_
    · rintro i x σ H' hx ⟨B, R', v5, rfl⟩
      rw [List.getElem?_map] at hx
      have hi : i < 2 ^ l.length := by
        rw [← la]
        cases e : ads[i]? with
        | none =>
          rw [e] at hx
          cases hx
        | some u => exact (List.getElem?_eq_some_iff.mp e).1
      obtain ⟨ad, e1, e2, e3⟩ := rows2 i hi
      rw [e1] at hx
      obtain rfl : V.ref ad = x := Option.some.inj hx
      have S' : Same H H' := fun c o e => B _ _ (S3 _ _ e) (hb2 e)
      obtain ⟨bds, b1, b2, b3⟩ := id R'
      have lpr := pR_len f l 5 i (Nat.lt_of_lt_of_le hi (show 2 ^ l.length ≤ 2 ^ 5 from p5))
      refine ⟨_, rfl, .inl ⟨rfl, _, SqL.of b1⟩, _, rfl, vl, rfl, ⟨_, SqL.of (S' _ _ hl)⟩, fun D hD => ?_⟩
      have nbD : b ≠ D := ne_of_none b1 hD
      refine lc_list (K := K) (a := vl) (xs := nVs l) (fun j H3 => Same H' H3 ∧ H3 D = some (.lst (nVs ((l.take j).map (nnN (pR f l i)))))) ⟨Same.upd hD, upd_same⟩ (fun j H3 _ ⟨s3, _⟩ => SqL.of (s3 _ _ (S' _ _ hl))) ?_ ?_
      · rintro j x H3 hx ⟨s3, eD⟩
        obtain ⟨m, hm, rfl⟩ := nVs_at hx
        have hj := (List.getElem?_eq_some_iff.mp hm).1
        refine ⟨rfl, _, rfl, _, rfl, _, rfl, cs, ad, pR f l i, m, rfl, C.same (Same.trans S' s3), s3 _ _ (B _ _ e2 e3), pR_lt hf hv i, hv m (List.mem_of_getElem? hm), Nat.le_trans lpr (by decide), fun H4 s4 => ⟨_, s4 _ _ eD, ?_, fun c o e => ?_, ?_⟩⟩
        · rw [nVs_len, List.length_map, List.length_take, sizeLine_eq]
          omega
        · rw [upd_ne (ne_of_none e hD)]
          exact s4 _ _ (s3 _ _ e)
        · rw [upd_same, List.take_add_one, hm, List.map_append, ← nVs_app]
          rfl
      · rintro H3 ⟨s3, eD⟩
        rw [nVs_len, List.take_length] at eD
        refine ⟨b, _, .ref D, rfl, rfl, s3 _ _ b1, ?_, fun c o e nb => ?_, ?_, some (.ref ad), rfl⟩
        · rw [List.length_map, b2, List.length_map, List.length_take, tabN_len, sizeLine_eq]
          omega
        · rw [upd_ne nb]
          exact s3 _ _ (B _ _ e nb)
        · have er : ((tabN f l (2 ^ l.length - 1)).take (i + 1)).map (rowN l) = ((tabN f l (2 ^ l.length - 1)).take i).map (rowN l) ++ [rowN l (pR f l i)] := by
            rw [List.take_add_one, tabN_at f l (show i ≤ 2 ^ l.length - 1 by omega), List.map_append]
            rfl
          rw [er]
          refine RowsAt.snoc (ads := bds) (ad := D) ?_ b2 (fun k c u g1 g2 => ?_) ?_
          · rw [upd_same, List.map_append]
            rfl
          · have z := b3 k c u g1 g2
            have nc : c ≠ b := ne_of z b1 fun z2 => by
              injection z2 with z2
              exact refs_ne g1 u z2
            rw [upd_ne nc]
            exact s3 _ _ z
          · rw [upd_ne (Ne.symm nbD)]
            exact eD
    · rintro σ H' ⟨B, R', v5, rfl⟩
      rw [List.length_map, la, List.take_of_length_le (by rw [tabN_len]; omega)] at R'
      have S' : Same H H' := fun c o e => B _ _ (S3 _ _ e) (hb2 e)
      refine ⟨_, rfl, _, rfl, b, rowsB f l, l.length, rfl, R', rowsB_len f l, rowsB_row f l, hn, fun H5 fw S5 hfw e5 => ?_⟩
      have S6 : Same H H5 := Same.trans S' S5
      refine ⟨(by show 0 ≤ sizeLine; decide), fun ol hol => ?_⟩
      have hol0 := Same.free S6 hol
      have R5 := R'.same S5
      refine while_by (fun σ H' => ExtN H5 H' ∧ Tabs (TB0 a) H' ∧ ∃ (j : Nat) (v10 : Option V), j ≤ l.length ∧ H' ol = some (.lst (nVs (ordN (rowsB f l) (fewB f l) l j))) ∧ σ = [some (.ref cs), some (nV f), some (.ref vl), some (nV l.length), some (.ref b), v5, none, some (.ref fw), some (.ref ol), some (nV (dnN (rowsB f l) (fewB f l) l j)), v10])
        (fun _ H' => match H' ol with | some (.lst xs) => l.length - xs.length | _ => 0) ⟨ExtN.of (Same.upd hol), (hT.ext S6).ext (Same.upd hol), 0, none, Nat.zero_le _, upd_same, rfl⟩ ?_ ?_
      · rintro σ H7 ⟨X, T7, j, v10, hj, eo, rfl⟩
        refine ⟨_, rfl, ol, _, rfl, .inl (SqL.of eo), _, rfl, j, l.length, ?_, rfl, _, rfl, ?_⟩
        · rw [nVs_len, ordN_len]
        by_cases c : j < l.length
        · rw [decide_eq_true c]
          obtain ⟨d1, d2⟩ := dn_ok (rowsB f l) (fewB f l) l j hj
          have ne : placesN (dnN (rowsB f l) (fewB f l) l j) l.length ≠ [] := fun z => by
            rw [z, List.length_nil] at d2
            omega
          have lf : (fewB f l).length = 2 ^ l.length := fewN_len _ _ _
          obtain ⟨m1, m2⟩ := nxt_mem (rows := rowsB f l) (fw := fewB f l) ne
          have ev : l[nxtN (rowsB f l) (fewB f l) l.length (dnN (rowsB f l) (fewB f l) l j)]? = some (l[nxtN (rowsB f l) (fewB f l) l.length (dnN (rowsB f l) (fewB f l) l j)]'m1) := List.getElem?_eq_getElem m1
          refine iteT ⟨_, rfl, _, rfl, _, rfl, _, rfl, b, fw, rowsB f l, fewB f l, _, l.length, rfl, T7, R5.extN X, X _ _ e5 (fun _ z => by cases z), rowsB_len f l, rowsB_row f l, lf, d1, ne, hn, fun H8 x8 T8 => ?_⟩
          have eo8 := x8 _ _ eo (fun _ z => by cases z)
          have el8 : H8 vl = some (.lst (nVs l)) := x8 _ _ (X _ _ (S6 _ _ hl) (fun _ z => by cases z)) (fun _ z => by cases z)
          refine ⟨_, rfl, .inl ⟨rfl, _, SqL.of eo8⟩, _, rfl, _, rfl, vl, _, _, _, rfl, rfl, SqL.of el8, at_nat (nVs_get ev), ol, _, _, rfl, rfl, eo8, ?_, ?_⟩
          · rw [nVs_len, ordN_len, sizeLine_eq]
            omega
          refine ⟨_, rfl, _, rfl, 1, _, 1, rfl, rfl, by decide, by omega, _, _, rfl, rfl, ⟨?_, ?_, j + 1, _, c, ?_, rfl⟩, ?_⟩
          · exact fun u o e n => by
              rw [upd_ne (ne_of_none e hol)]
              exact x8 _ _ (X _ _ e n) n
          · exact tabs_lst T8 eo8
          · rw [upd_same]
            show _ = some (HO.lst (nVs (ordN (rowsB f l) (fewB f l) l j ++ [_])))
            rw [← nVs_app, List.getD_eq_getElem?_getD, ev]
            rfl
          · rw [upd_same]
            show l.length - (nVs (ordN (rowsB f l) (fewB f l) l j) ++ [_]).length < (match H7 ol with | some (.lst xs) => l.length - xs.length | _ => 0)
            rw [eo]
            show _ < l.length - (nVs (ordN (rowsB f l) (fewB f l) l j)).length
            rw [List.length_append, nVs_len, ordN_len]
            show l.length - (j + 1) < _
            omega
        · rw [decide_eq_false c]
          obtain rfl : j = l.length := by omega
          have lf : (fewB f l).length = 2 ^ l.length := fewN_len _ _ _
          have e0 : (fewB f l)[0]? = some ((fewB f l).getD 0 0) := by
            rw [List.getD_eq_getElem?_getD, List.getElem?_eq_getElem (show 0 < (fewB f l).length by omega)]
            rfl
          refine iteF ⟨_, rfl, fw, _, 0, _, rfl, rfl, SqL.of (X _ _ e5 (fun _ z => by cases z)), at_nat (nVs_get e0), _, rfl, (by show 2 ≤ sizeLine; decide), fun r hr2 => ?_⟩
          exact q _ r ol (((ExtN.of S6).trans X).trans (ExtN.of (Same.upd hr2))) (T7.ext (Same.upd hr2)) hol0 upd_same (Same.upd hr2 _ _ eo)
      · intro σ H7 Q1 Q2 hQ h
        obtain ⟨x, e1, p, ys, e2, e3, y, e4, n, m, e5, e6, b, e7, e8⟩ := h
        exact ⟨x, e1, p, ys, e2, e3, y, e4, n, m, e5, e6, b, e7, hQ _ _ e8⟩
end
end Ten
namespace Ten
/-! How many nodes an order gives, told by levels. -/
theorem sub_len : ∀ (l o : List Nat), l.Nodup → (∀ x ∈ l, x ∈ o) → l.length ≤ o.length
  | [], _, _, _ => Nat.zero_le _
  | x :: t, o, hn, hs => by
    have hn' := List.nodup_cons.mp hn
    have p := List.perm_cons_erase (hs x List.mem_cons_self)
    have q := sub_len t (o.erase x) hn'.2 fun y hy => (List.mem_erase_of_ne (fun z : y = x => hn'.1 (z ▸ hy))).mpr (hs y (List.mem_cons_of_mem _ hy))
    rw [p.length_eq, List.length_cons, List.length_cons]
    omega
theorem same_len {l o : List Nat} (hl : l.Nodup) (ho : o.Nodup) (h : ∀ g, g ∈ l ↔ g ∈ o) : l.length = o.length :=
  Nat.le_antisymm (sub_len l o hl fun x hx => (h x).mp hx) (sub_len o l ho fun x hx => (h x).mpr hx)
/-- g has a node on the way from p -/
def Rn : List Nat → Nat → Nat → Prop
  | [], _, _ => False
  | v :: o, p, g => (g = p ∧ hang p v = true) ∨ Rn o (fixN p v false) g ∨ Rn o (fixN p v true) g
theorem rn_fix {v : Nat} {o : List Nat} {p g : Nat} (z : Bool) (h : Rn o (fixN p v z) g) : Rn (v :: o) p g := by
  cases z with
  | false => exact .inr (.inl h)
  | true => exact .inr (.inr h)
theorem rn_skip {v : Nat} {o : List Nat} {p g : Nat} (hp : p < Full) (hv : v < 10) (h : hang p v = false) : Rn (v :: o) p g ↔ Rn o p g := by
  show ((g = p ∧ hang p v = true) ∨ Rn o (fixN p v false) g ∨ Rn o (fixN p v true) g) ↔ _
  rw [fix_same hp hv h, fix_same hp hv h, h]
  constructor
  · rintro (⟨_, z⟩ | z | z)
    · cases z
    · exact z
    · exact z
  · exact fun z => .inr (.inl z)
theorem rn_pre {p g : Nat} (hp : p < Full) : ∀ (pre o : List Nat), (∀ v ∈ pre, v < 10 ∧ hang p v = false) → (Rn (pre ++ o) p g ↔ Rn o p g)
  | [], _, _ => Iff.rfl
  | v :: pre, o, h => by
    rw [List.cons_append, rn_skip hp (h v List.mem_cons_self).1 (h v List.mem_cons_self).2]
    exact rn_pre hp pre o fun u hu => h u (List.mem_cons_of_mem _ hu)
theorem rn_const {g : Nat} : ∀ (o : List Nat) (p : Nat), (∀ v ∈ o, v < 10) → (p = 0 ∨ p = EV) → ¬ Rn o p g
  | [], _, _, _ => id
  | v :: o, p, ho, hc => by
    have hv := ho v List.mem_cons_self
    have hp : p < Full := by
      rcases hc with c | c
      · rw [c]
        exact Nat.two_pow_pos _
      · rw [c]
        exact EV_lt
    have hh : hang p v = false := by
      rcases hc with c | c
      · rw [c]
        exact hang_zero hv
      · rw [c]
        exact hang_EV hv
    rw [rn_skip hp hv hh]
    exact rn_const o p (fun u hu => ho u (List.mem_cons_of_mem _ hu)) hc
theorem rn_lt {g : Nat} : ∀ (o : List Nat) (p : Nat), (∀ v ∈ o, v < 10) → p < Full → Rn o p g → g < Full
  | [], _, _, _, h => h.elim
  | v :: o, p, ho, hp, h => by
    have hv := ho v List.mem_cons_self
    have ho' : ∀ u ∈ o, u < 10 := fun u hu => ho u (List.mem_cons_of_mem _ hu)
    rcases h with ⟨e, _⟩ | h | h
    · rw [e]
      exact hp
    · exact rn_lt o _ ho' (fixN_lt _ hp hv) h
    · exact rn_lt o _ ho' (fixN_lt _ hp hv) h
theorem rn_hang {g u : Nat} (hu : u < 10) : ∀ (o : List Nat) (p : Nat), (∀ v ∈ o, v < 10) → p < Full → hang p u = false → Rn o p g → hang g u = false
  | [], _, _, _, _, h => h.elim
  | v :: o, p, ho, hp, hh, h => by
    have hv := ho v List.mem_cons_self
    have ho' : ∀ u ∈ o, u < 10 := fun u hu => ho u (List.mem_cons_of_mem _ hu)
    rcases h with ⟨e, _⟩ | h | h
    · rw [e]
      exact hh
    · exact rn_hang hu o _ ho' (fixN_lt _ hp hv) (hang_fix hp hu hv _ hh) h
    · exact rn_hang hu o _ ho' (fixN_lt _ hp hv) (hang_fix hp hu hv _ hh) h
theorem rn_trans {q g : Nat} : ∀ (o : List Nat) (p : Nat), (∀ v ∈ o, v < 10) → p < Full → Rn o p q → Rn o q g → Rn o p g
  | [], _, _, _, h, _ => h.elim
  | v :: o, p, ho, hp, h, h2 => by
    have hv := ho v List.mem_cons_self
    have ho' : ∀ u ∈ o, u < 10 := fun u hu => ho u (List.mem_cons_of_mem _ hu)
    have go : ∀ z : Bool, Rn o (fixN p v z) q → Rn (v :: o) p g := fun z k => by
      have hf := fixN_lt (f := p) (v := v) z hp hv
      have hq := rn_lt o _ ho' hf k
      have hh := rn_hang hv o _ ho' hf (hang_self hp hv z) k
      rw [rn_skip hq hv hh] at h2
      exact rn_fix z (rn_trans o _ ho' hf k h2)
    rcases h with ⟨e, _⟩ | h | h
    · rw [← e]
      exact h2
    · exact go false h
    · exact go true h
/-- what is met already is closed, as far as this rest goes -/
def Cl (o : List Nat) (had : List Nat) : Prop := ∀ p ∈ had, Dep o p → ∀ g, Rn o p g → g ∈ had
theorem meet_mem {o : List Nat} (h : Diag.isOrder o = true) : ∀ (n : Nat) (had : List Nat) (p : Nat) (o' : List Nat), Rest o o' → Dep o' p → p < Full → o'.length + 1 ≤ n → (∀ q ∈ had, q < Full) → Cl o' had →
    (∀ g, g ∈ meetP o n had p ↔ g ∈ had ∨ Rn o' p g) ∧ Cl o' (meetP o n had p)
  | 0, _, _, _, _, _, _, hl, _, _ => by omega
  | n + 1, had, p, o', r, hd, hp, hl, hh, hc => by
    obtain ⟨pre, er⟩ := r
    have ho' : ∀ v ∈ o', v < 10 := fun v hv => ord_lt h v (by rw [er]; exact List.mem_append_right _ hv)
    have hn := ord_nodup h
    rw [er] at hn
    have hn' : o'.Nodup := (List.nodup_append.mp hn).2.1
    unfold meetP
    by_cases c : p = 0 ∨ p = EV ∨ p ∈ had
    · rw [if_pos c]
      refine ⟨fun g => ⟨.inl, fun z => ?_⟩, hc⟩
      rcases z with z | z
      · exact z
      · rcases c with c | c | c
        · exact absurd z (rn_const o' p ho' (.inl c))
        · exact absurd z (rn_const o' p ho' (.inr c))
        · exact hc p c hd g z
    · rw [if_neg c]
      obtain ⟨pr, e, hpr, k⟩ := trim_split (f := p) o'
      rcases k with k | ⟨v, t, k, kv⟩
      · exfalso
        rw [k, List.append_nil] at e
        rcases const_of_none hp (fun v hv => by
          by_cases m : v ∈ o'
          · exact hpr v (e ▸ m)
          · exact hd v hv m) with q | q
        · exact c (.inl q)
        · exact c (.inr (.inl q))
      · rw [k] at e
        have rt : Rest o (v :: t) := ⟨pre ++ pr, by rw [List.append_assoc, ← e]; exact er⟩
        have et : topV o p = v := by
          refine top_head (t := t) ?_
          rw [← rest_trim h ⟨pre, er⟩ hd, ← k]
        have hv : v < 10 := ho' v (by rw [e]; simp)
        have rt2 : Rest o t := ⟨pre ++ (pr ++ [v]), by rw [List.append_assoc, List.append_assoc, List.singleton_append, ← e]; exact er⟩
        have ht : ∀ u ∈ t, u < 10 := fun u hu => ho' u (by rw [e]; simp [hu])
        rw [e] at hn'
        obtain ⟨n1, n2, n3⟩ := List.nodup_append.mp hn'
        have n4 := List.nodup_cons.mp n2
        have dvt : Dep (v :: t) p := fun u hu hn2 => by
          by_cases m : u ∈ o'
          · rw [e] at m
            rcases List.mem_append.mp m with m | m
            · exact hpr u m
            · exact absurd m hn2
          · exact hd u hu m
        have hpr2 : ∀ u ∈ pr, u < 10 ∧ hang p u = false := fun u hu => ⟨ho' u (by rw [e]; simp [hu]), hpr u hu⟩
        rw [et]
        have hh1 : ∀ q ∈ had ++ [p], q < Full := fun q hq => by
          rcases List.mem_append.mp hq with z | z
          · exact hh q z
          · rw [List.mem_singleton] at z
            rw [z]
            exact hp
        -- one that hangs on t alone, told by o'
        have low : ∀ q g, q < Full → Dep t q → (Rn o' q g ↔ Rn t q g) := fun q g hq dq => by
          have e2 : o' = (pr ++ [v]) ++ t := by rw [List.append_assoc, List.singleton_append]; exact e
          rw [e2]
          refine rn_pre hq _ _ fun u hu => ?_
          rcases List.mem_append.mp hu with z | z
          · exact ⟨ho' u (by rw [e]; simp [z]), dq u (ho' u (by rw [e]; simp [z])) fun m => n3 u z u (List.mem_cons_of_mem _ m) rfl⟩
          · rw [List.mem_singleton] at z
            subst z
            exact ⟨hv, dq u hv n4.1⟩
        have up : ∀ q, Dep t q → Dep o' q := fun q dq => dq.more fun u hu => by rw [e]; simp [hu]
        have c1 : Cl t (had ++ [p]) := fun q hq dq g hg => by
          rcases List.mem_append.mp hq with z | z
          · exact List.mem_append_left _ (hc q z (up q dq) g ((low q g (hh q z) dq).mpr hg))
          · rw [List.mem_singleton] at z
            subst z
            have := dq v hv n4.1
            rw [kv] at this
            cases this
        have lt : t.length + 1 ≤ n := by
          rw [e, List.length_append, List.length_cons] at hl
          omega
        obtain ⟨m1, c2⟩ := meet_mem h n (had ++ [p]) (fixN p v false) t rt2 (dvt.fix hp hv false) (fixN_lt _ hp hv) lt hh1 c1
        have hh2 : ∀ q ∈ meetP o n (had ++ [p]) (fixN p v false), q < Full := meetP_lt h n _ _ hh1 (fixN_lt _ hp hv)
        obtain ⟨m2, c3⟩ := meet_mem h n _ (fixN p v true) t rt2 (dvt.fix hp hv true) (fixN_lt _ hp hv) lt hh2 c2
        have mem : ∀ g, g ∈ meetP o n (meetP o n (had ++ [p]) (fixN p v false)) (fixN p v true) ↔ g ∈ had ∨ Rn o' p g := fun g => by
          have eo : Rn o' p g ↔ Rn (v :: t) p g := by
            rw [e]
            exact rn_pre hp pr _ hpr2
          rw [m2, m1, eo, List.mem_append, List.mem_singleton]
          show _ ↔ g ∈ had ∨ ((g = p ∧ hang p v = true) ∨ Rn t (fixN p v false) g ∨ Rn t (fixN p v true) g)
          rw [kv]
          constructor
          · rintro (((z | z) | z) | z)
            · exact .inl z
            · exact .inr (.inl ⟨z, rfl⟩)
            · exact .inr (.inr (.inl z))
            · exact .inr (.inr (.inr z))
          · rintro (z | ⟨z, _⟩ | z | z)
            · exact .inl (.inl (.inl z))
            · exact .inl (.inl (.inr z))
            · exact .inl (.inr z)
            · exact .inr z
        refine ⟨mem, fun q hq dq g hg => (mem g).mpr ?_⟩
        rcases (mem q).mp hq with z | z
        · exact .inl (hc q z dq g hg)
        · exact .inr (rn_trans o' p ho' hp z hg)
theorem parts_mem {o : List Nat} (h : Diag.isOrder o = true) {f : Nat} (hf : f < Full) (g : Nat) : g ∈ partsOf o f ↔ Rn o f g := by
  have q := (meet_mem h 11 [] f o ⟨[], rfl⟩ (ord_dep h f) hf (by rw [ord_len h]; exact Nat.le_refl _) (fun q hq => by cases hq) (fun p hp => by cases hp)).1 g
  unfold partsOf
  rw [q]
  simp
/-- how many nodes, from these parts on -/
def costF : List Nat → List Nat → Nat
  | _, [] => 0
  | ps, v :: o => nnN ps v + costF (fixedP ps v) o
def nodesL : List Nat → List Nat → List Nat
  | _, [] => []
  | ps, v :: o => ps.filter (fun p => hang p v) ++ nodesL (fixedP ps v) o
theorem nodesL_len : ∀ (o ps : List Nat), (nodesL ps o).length = costF ps o
  | [], _ => rfl
  | v :: o, ps => by
    show ((ps.filter fun p => hang p v) ++ nodesL (fixedP ps v) o).length = _
    rw [List.length_append, nodesL_len o]
    rfl
theorem nodesL_mem {g : Nat} : ∀ (o ps : List Nat), g ∈ nodesL ps o ↔ ∃ p ∈ ps, Rn o p g
  | [], ps => by
    constructor
    · intro z
      cases z
    · rintro ⟨_, _, z⟩
      exact z.elim
  | v :: o, ps => by
    show g ∈ (ps.filter fun p => hang p v) ++ nodesL (fixedP ps v) o ↔ _
    rw [List.mem_append, List.mem_filter, nodesL_mem o]
    constructor
    · rintro (⟨z1, z2⟩ | ⟨q, hq, z⟩)
      · exact ⟨g, z1, .inl ⟨rfl, z2⟩⟩
      · obtain ⟨p, hp, b, e⟩ := fixedP_mem.mp hq
        exact ⟨p, hp, rn_fix b (e ▸ z)⟩
    · rintro ⟨p, hp, ⟨e, hh⟩ | z | z⟩
      · exact .inl ⟨e ▸ hp, e ▸ hh⟩
      · exact .inr ⟨_, fixedP_mem.mpr ⟨p, hp, false, rfl⟩, z⟩
      · exact .inr ⟨_, fixedP_mem.mpr ⟨p, hp, true, rfl⟩, z⟩
theorem nodesL_nodup : ∀ (o ps : List Nat), (∀ v ∈ o, v < 10) → ps.Nodup → (∀ p ∈ ps, p < Full) → (nodesL ps o).Nodup
  | [], _, _, _, _ => List.nodup_nil
  | v :: o, ps, ho, hn, hp => by
    have hv := ho v List.mem_cons_self
    have ho' : ∀ u ∈ o, u < 10 := fun u hu => ho u (List.mem_cons_of_mem _ hu)
    refine List.nodup_append.mpr ⟨hn.sublist List.filter_sublist, nodesL_nodup o _ ho' (fixedP_nodup ps v) (fixedP_lt hv hp), fun x hx y hy e => ?_⟩
    subst e
    obtain ⟨q, hq, z⟩ := (nodesL_mem o _).mp hy
    obtain ⟨p, hpp, b, eq⟩ := fixedP_mem.mp hq
    have hh := rn_hang hv o q ho' (fixedP_lt hv hp q hq) (eq ▸ hang_self (hp p hpp) hv b) z
    have := (List.mem_filter.mp hx).2
    rw [hh] at this
    cases this
theorem nodes_cost {o : List Nat} (h : Diag.isOrder o = true) {f : Nat} (hf : f < Full) : (Diag.nodesOf o f).length = costF [f] o := by
  rw [nodes_rows h hf, List.length_map, ← nodesL_len o [f]]
  refine same_len (meetP_nodup o 11 [] f List.nodup_nil) (nodesL_nodup o [f] (ord_lt h) (by simp) (fun p hp => by rw [List.mem_singleton.mp hp]; exact hf)) fun g => ?_
  rw [nodesL_mem]
  refine (parts_mem h hf g).trans ⟨fun z => ⟨f, List.mem_singleton.mpr rfl, z⟩, ?_⟩
  rintro ⟨p, hp, z⟩
  rw [List.mem_singleton.mp hp] at z
  exact z
end Ten
namespace Ten
/-! The parts by what is done, as sets; the costs of orders. -/
def SetEq (l o : List Nat) : Prop := ∀ g, g ∈ l ↔ g ∈ o
theorem SetEq.fixed {l o : List Nat} (h : SetEq l o) (v : Nat) : SetEq (fixedP l v) (fixedP o v) := fun g => by
  rw [fixedP_mem, fixedP_mem]
  exact ⟨fun ⟨p, hp, z⟩ => ⟨p, (h p).mp hp, z⟩, fun ⟨p, hp, z⟩ => ⟨p, (h p).mpr hp, z⟩⟩
theorem SetEq.nn {l o : List Nat} (h : SetEq l o) (hl : l.Nodup) (ho : o.Nodup) (v : Nat) : nnN l v = nnN o v := by
  unfold nnN
  refine same_len (hl.sublist List.filter_sublist) (ho.sublist List.filter_sublist) fun g => ?_
  rw [List.mem_filter, List.mem_filter, h g]
theorem SetEq.cost : ∀ (r : List Nat) {l o : List Nat}, SetEq l o → l.Nodup → o.Nodup → costF l r = costF o r
  | [], _, _, _, _, _ => rfl
  | v :: r, l, o, h, hl, ho => by
    show nnN l v + costF (fixedP l v) r = nnN o v + costF (fixedP o v) r
    rw [h.nn hl ho v, SetEq.cost r (h.fixed v) (fixedP_nodup l v) (fixedP_nodup o v)]
theorem fixed_comm {ps : List Nat} {u v : Nat} (hp : ∀ p ∈ ps, p < Full) (hu : u < 10) (hv : v < 10) (ne : u ≠ v) : SetEq (fixedP (fixedP ps u) v) (fixedP (fixedP ps v) u) := fun g => by
  simp only [fixedP_mem]
  constructor
  · rintro ⟨q, ⟨p, h, a, rfl⟩, b, rfl⟩
    exact ⟨_, ⟨p, h, b, rfl⟩, a, fix_comm (hp p h) hu hv a b ne⟩
  · rintro ⟨q, ⟨p, h, a, rfl⟩, b, rfl⟩
    exact ⟨_, ⟨p, h, b, rfl⟩, a, fix_comm (hp p h) hv hu a b (Ne.symm ne)⟩
theorem or_add {d p : Nat} (h : d.testBit p = false) : d ||| (1 <<< p) = d + 2 ^ p := by
  refine Nat.eq_of_testBit_eq fun u => ?_
  rw [or_bit, add_bit p d u h]
  by_cases e : u = p
  · rw [if_pos e, decide_eq_true e, Bool.or_true]
  · rw [if_neg e, decide_eq_false e, Bool.or_false]
theorem top_bit {d : Nat} (h : d ≠ 0) : d.testBit (Nat.log2 d) = true := by
  have h1 := log_le h
  have h2 := log_hi d
  rw [Nat.pow_succ, Nat.mul_two] at h2
  obtain ⟨r, e⟩ : ∃ r, d = 2 ^ Nat.log2 d + r := ⟨d - 2 ^ Nat.log2 d, by omega⟩
  have hr : r < 2 ^ Nat.log2 d := by omega
  generalize Nat.log2 d = l at e hr
  rw [e, Nat.testBit_two_pow_add_eq, Nat.testBit_lt_two_pow hr]
  rfl
theorem log_of {d l : Nat} (h1 : 2 ^ l ≤ d) (h2 : d < 2 ^ (l + 1)) : Nat.log2 d = l := by
  have h0 : d ≠ 0 := by
    have := Nat.two_pow_pos l
    omega
  have a := log_le h0
  have b := log_hi d
  have c1 : l < Nat.log2 d + 1 := (Nat.pow_lt_pow_iff_right (by decide : 1 < 2)).mp (Nat.lt_of_le_of_lt h1 b)
  have c2 : Nat.log2 d < l + 1 := (Nat.pow_lt_pow_iff_right (by decide : 1 < 2)).mp (Nat.lt_of_le_of_lt a h2)
  omega
/-- one place more is done -/
theorem pR_or {f : Nat} {vs : List Nat} (hf : f < Full) (hv : ∀ v ∈ vs, v < 10) (hn : vs.Nodup) {p : Nat} (hp : p < vs.length) : ∀ d : Nat, d < 2 ^ vs.length → d.testBit p = false → SetEq (pR f vs (d ||| (1 <<< p))) (fixedP (pR f vs d) (vs.getD p 0)) := by
  intro d
  induction d using Nat.strongRecOn with
  | _ d ih =>
    intro hd hb
    rw [or_add hb]
    have nz : d + 2 ^ p ≠ 0 := by
      have := Nat.two_pow_pos p
      omega
    by_cases c : d < 2 ^ p
    · have el : Nat.log2 (d + 2 ^ p) = p := log_of (by omega) (by rw [Nat.pow_succ, Nat.mul_two]; omega)
      rw [pR_next f vs nz, el, Nat.add_sub_cancel]
      exact fun g => Iff.rfl
    · have hd0 : d ≠ 0 := by
        have := Nat.two_pow_pos p
        omega
      have l1 := log_le hd0
      have l2 := log_hi d
      have pp := Nat.two_pow_pos p
      have pl := Nat.two_pow_pos (Nat.log2 d)
      have lp : p < Nat.log2 d := by
        have a1 : p < Nat.log2 d + 1 := (Nat.pow_lt_pow_iff_right (by decide : 1 < 2)).mp (Nat.lt_of_le_of_lt (Nat.le_of_not_lt c) l2)
        have a2 : p ≠ Nat.log2 d := fun z => by
          have q := top_bit hd0
          rw [← z, hb] at q
          cases q
        omega
      have ln : Nat.log2 d < vs.length := (Nat.pow_lt_pow_iff_right (by decide : 1 < 2)).mp (Nat.lt_of_le_of_lt l1 hd)
      have hbl : (d - 2 ^ Nat.log2 d).testBit p = false := by
        have e : d = 2 ^ Nat.log2 d + (d - 2 ^ Nat.log2 d) := by omega
        have q : (2 ^ Nat.log2 d + (d - 2 ^ Nat.log2 d)).testBit p = (d - 2 ^ Nat.log2 d).testBit p := Nat.testBit_two_pow_add_gt lp _
        rw [← q, ← e]
        exact hb
      have e2 : d + 2 ^ p < 2 ^ (Nat.log2 d + 1) := by
        rw [← or_add hb, Nat.one_shiftLeft]
        exact Nat.or_lt_two_pow l2 (Nat.pow_lt_pow_right (by decide) (by omega))
      have el : Nat.log2 (d + 2 ^ p) = Nat.log2 d := log_of (by omega) e2
      have sm := ih (d - 2 ^ Nat.log2 d) (log_lt hd0) (by omega) hbl
      rw [or_add hbl] at sm
      rw [pR_next f vs nz, el, show d + 2 ^ p - 2 ^ Nat.log2 d = d - 2 ^ Nat.log2 d + 2 ^ p by omega, pR_next f vs hd0]
      have gp : ∀ {i : Nat}, i < vs.length → vs.getD i 0 < 10 ∧ vs[i]? = some (vs.getD i 0) := fun {i} hi => by
        rw [List.getD_eq_getElem?_getD, List.getElem?_eq_getElem hi]
        exact ⟨hv _ (List.getElem_mem hi), rfl⟩
      have nv : vs.getD p 0 ≠ vs.getD (Nat.log2 d) 0 := fun z => by
        have q1 := (gp hp).2
        have q2 := (gp ln).2
        rw [← z] at q2
        have q3 := (List.getElem?_inj hp hn).mp (q1.trans q2.symm)
        omega
      intro g
      rw [(sm.fixed (vs.getD (Nat.log2 d) 0)) g]
      exact fixed_comm (pR_lt hf hv _) (gp hp).1 (gp ln).1 nv g
/-! ### the dynamic table -/
theorem few_keep (rows : List (List Nat)) (n : Nat) : ∀ (m k e : Nat), k + m ≤ 2 ^ n - 1 → 2 ^ n - 1 - k ≤ e → (fewN rows n (k + m)).getD e 0 = (fewN rows n k).getD e 0
  | 0, _, _, _, _ => rfl
  | m + 1, k, e, h1, h2 => by
    have q := few_keep rows n m k e (by omega) h2
    rw [← q]
    show ((fewN rows n (k + m)).set (2 ^ n - 2 - (k + m)) _).getD e 0 = _
    rw [List.getD_eq_getElem?_getD, List.getElem?_set_ne (by omega), ← List.getD_eq_getElem?_getD]
theorem few_top (rows : List (List Nat)) (n : Nat) : (fewN rows n (2 ^ n - 1)).getD (2 ^ n - 1) 0 = 0 := by
  have q := few_keep rows n (2 ^ n - 1) 0 (2 ^ n - 1) (by omega) (by omega)
  rw [Nat.zero_add] at q
  rw [q]
  show (List.replicate (2 ^ n) 0).getD _ 0 = 0
  rw [List.getD_eq_getElem?_getD, List.getElem?_replicate]
  split <;> rfl
theorem or_gt {d n p : Nat} (hb : d.testBit p = false) : d < d ||| (1 <<< p) := by
  rw [or_add hb]
  have := Nat.two_pow_pos p
  omega
theorem few_at (rows : List (List Nat)) (n : Nat) {d : Nat} (h : d + 1 < 2 ^ n) : (fewN rows n (2 ^ n - 1)).getD d 0 = leastOf ((placesN d n).map (thrN rows (fewN rows n (2 ^ n - 1)) d)) := by
  obtain ⟨k, hk⟩ : ∃ k, d = 2 ^ n - 2 - k ∧ k + 1 ≤ 2 ^ n - 1 := ⟨2 ^ n - 2 - d, by omega⟩
  have q := few_keep rows n (2 ^ n - 1 - (k + 1)) (k + 1) d (by omega) (by omega)
  rw [show k + 1 + (2 ^ n - 1 - (k + 1)) = 2 ^ n - 1 by omega] at q
  rw [q]
  show ((fewN rows n k).set (2 ^ n - 2 - k) (leastOf ((placesN (2 ^ n - 2 - k) n).map (thrN rows (fewN rows n k) (2 ^ n - 2 - k))))).getD d 0 = _
  rw [← hk.1, List.getD_eq_getElem?_getD, List.getElem?_set_self (by rw [fewN_len]; omega)]
  show leastOf _ = _
  congr 1
  refine List.map_congr_left fun p hp => ?_
  obtain ⟨p1, p2⟩ := places_mem.mp hp
  unfold thrN
  congr 1
  have q2 := few_keep rows n (2 ^ n - 1 - k) k (d ||| (1 <<< p)) (by omega) (by have := or_gt (n := n) p2; omega)
  rw [show k + (2 ^ n - 1 - k) = 2 ^ n - 1 by omega] at q2
  exact q2.symm
theorem places_ne' {d n : Nat} (h : d + 1 < 2 ^ n) : placesN d n ≠ [] := fun z => by
  have all : ∀ p, p < n → d.testBit p = true := fun p hp => by
    cases c : d.testBit p with
    | true => rfl
    | false =>
      have q := places_mem.mpr ⟨hp, c⟩
      rw [z] at q
      cases q
  have e : d &&& (2 ^ n - 1) = 2 ^ n - 1 := Nat.eq_of_testBit_eq fun p => by
    rw [Nat.testBit_and, Nat.testBit_two_pow_sub_one]
    by_cases hp : p < n
    · rw [all p hp, decide_eq_true hp]
      rfl
    · rw [decide_eq_false hp, Bool.and_false]
  have q : d &&& (2 ^ n - 1) ≤ d := Nat.and_le_left
  omega
end Ten
namespace Ten
/-! The first of the orders with the fewest nodes. -/
section
variable {α β : Type}
/-- y is the first of the list with the least key -/
def IsFirst (k : α → Nat) (xs : List α) (y : α) : Prop := ∃ pre post, xs = pre ++ y :: post ∧ (∀ z ∈ pre, k y < k z) ∧ ∀ z ∈ post, k y ≤ k z
theorem IsFirst.mem {k : α → Nat} {xs : List α} {y : α} (h : IsFirst k xs y) : y ∈ xs := by
  obtain ⟨pre, post, e, _, _⟩ := h
  rw [e]
  simp
theorem IsFirst.congr {k j : α → Nat} {xs : List α} {y : α} (h : IsFirst k xs y) (e : ∀ x ∈ xs, j x = k x) : IsFirst j xs y := by
  have hy := e y h.mem
  obtain ⟨pre, post, ex, h1, h2⟩ := h
  refine ⟨pre, post, ex, fun z hz => ?_, fun z hz => ?_⟩
  · rw [hy, e z (by rw [ex]; simp [hz])]
    exact h1 z hz
  · rw [hy, e z (by rw [ex]; simp [hz])]
    exact h2 z hz
theorem IsFirst.add {k : α → Nat} {xs : List α} {y : α} (h : IsFirst k xs y) (c : Nat) : IsFirst (fun x => c + k x) xs y := by
  obtain ⟨pre, post, ex, h1, h2⟩ := h
  exact ⟨pre, post, ex, fun z hz => Nat.add_lt_add_left (h1 z hz) c, fun z hz => Nat.add_le_add_left (h2 z hz) c⟩
theorem IsFirst.map {k : β → Nat} {g : α → β} {xs : List α} {y : α} (h : IsFirst (fun x => k (g x)) xs y) : IsFirst k (xs.map g) (g y) := by
  obtain ⟨pre, post, ex, h1, h2⟩ := h
  refine ⟨pre.map g, post.map g, by rw [ex, List.map_append, List.map_cons], fun z hz => ?_, fun z hz => ?_⟩
  · obtain ⟨x, hx, rfl⟩ := List.mem_map.mp hz
    exact h1 x hx
  · obtain ⟨x, hx, rfl⟩ := List.mem_map.mp hz
    exact h2 x hx
theorem IsFirst.least {k : α → Nat} {xs : List α} {y z : α} (h : IsFirst k xs y) (hz : z ∈ xs) : k y ≤ k z := by
  obtain ⟨pre, post, ex, h1, h2⟩ := h
  rw [ex] at hz
  rcases List.mem_append.mp hz with m | m
  · exact Nat.le_of_lt (h1 z m)
  · rcases List.mem_cons.mp m with e | m
    · rw [e]
      exact Nat.le_refl _
    · exact h2 z m
/-- the first of the groups' firsts -/
theorem IsFirst.bind {k : β → Nat} {l : List α} {g : α → List β} {y : α → β} {x0 : α} (h : ∀ x ∈ l, IsFirst k (g x) (y x)) (h0 : IsFirst (fun x => k (y x)) l x0) : IsFirst k (l.flatMap g) (y x0) := by
  obtain ⟨pre, post, ex, h1, h2⟩ := h0
  obtain ⟨p1, q1, e1, a1, a2⟩ := h x0 (by rw [ex]; simp)
  refine ⟨pre.flatMap g ++ p1, q1 ++ post.flatMap g, ?_, fun z hz => ?_, fun z hz => ?_⟩
  · rw [ex, List.flatMap_append, List.flatMap_cons, e1]
    simp
  · rcases List.mem_append.mp hz with m | m
    · obtain ⟨x, hx, hzx⟩ := List.mem_flatMap.mp m
      exact Nat.lt_of_lt_of_le (h1 x hx) ((h x (by rw [ex]; simp [hx])).least hzx)
    · exact a1 z m
  · rcases List.mem_append.mp hz with m | m
    · exact a2 z m
    · obtain ⟨x, hx, hzx⟩ := List.mem_flatMap.mp m
      exact Nat.le_trans (h2 x hx) ((h x (by rw [ex]; simp [hx])).least hzx)
/-- a walk that keeps the better one -/
theorem fold_first {k : α → Nat} {y : α} : ∀ (xs : List α) (b : α), IsFirst k (b :: xs) y → xs.foldl (fun (p : α × Nat) r => if k r < p.2 then (r, k r) else p) (b, k b) = (y, k y)
  | [], b, h => by
    have e : y = b := List.mem_singleton.mp h.mem
    rw [e]
    rfl
  | x :: xs, b, h => by
    rw [List.foldl_cons]
    obtain ⟨pre, post, ex, h1, h2⟩ := h
    show xs.foldl _ (if k x < k b then (x, k x) else (b, k b)) = _
    cases pre with
    | nil =>
      injection ex with e1 e2
      subst e1
      have hx : k b ≤ k x := h2 x (by rw [← e2]; simp)
      rw [if_neg (by omega)]
      exact fold_first xs b ⟨[], xs, rfl, fun z hz => (by cases hz), fun z hz => h2 z (by rw [← e2]; simp [hz])⟩
    | cons c pre =>
      injection ex with e1 e2
      subst e1
      by_cases hc : k x < k b
      · rw [if_pos hc]
        exact fold_first xs x ⟨pre, post, e2, fun z hz => h1 z (List.mem_cons_of_mem _ hz), h2⟩
      · rw [if_neg hc]
        cases pre with
        | nil =>
          injection e2 with e3 e4
          subst e3
          exact absurd (h1 b List.mem_cons_self) hc
        | cons d pre =>
          injection e2 with e3 e4
          subst e3
          refine fold_first xs b ⟨b :: pre, post, by rw [e4]; rfl, fun z hz => ?_, h2⟩
          rcases List.mem_cons.mp hz with e | m
          · rw [e]
            exact h1 b List.mem_cons_self
          · exact h1 z (List.mem_cons_of_mem _ (List.mem_cons_of_mem _ m))
end
theorem firstBy_is (k : Nat → Nat) : ∀ l : List Nat, l ≠ [] → IsFirst k l (firstBy k l)
  | [], h => absurd rfl h
  | [x], _ => ⟨[], [], rfl, fun z hz => (by cases hz), fun z hz => (by cases hz)⟩
  | x :: y :: r, _ => by
    have ih := firstBy_is k (y :: r) (by simp)
    show IsFirst k (x :: y :: r) (if k (firstBy k (y :: r)) < k x then firstBy k (y :: r) else x)
    by_cases c : k (firstBy k (y :: r)) < k x
    · rw [if_pos c]
      obtain ⟨pre, post, e, h1, h2⟩ := ih
      refine ⟨x :: pre, post, congrArg (List.cons x) e, fun z hz => ?_, h2⟩
      rcases List.mem_cons.mp hz with q | m
      · rw [q]
        exact c
      · exact h1 z m
    · rw [if_neg c]
      exact ⟨[], y :: r, rfl, fun z hz => (by cases hz), fun z hz => Nat.le_trans (Nat.le_of_not_lt c) (ih.least hz)⟩
theorem firstBy_least (k : Nat → Nat) {l : List Nat} (h : l ≠ []) : k (firstBy k l) = leastOf (l.map k) := by
  refine leastOf_eq (List.mem_map.mpr ⟨_, firstBy_mem k l h, rfl⟩) fun x hx => ?_
  obtain ⟨y, hy, rfl⟩ := List.mem_map.mp hx
  exact (firstBy_is k l h).least hy
/-! ### arrangements -/
theorem arr_perm : ∀ (n : Nat) (l r : List Nat), l.Nodup → l.length = n → r ∈ Diag.arranged n l → r.Perm l
  | 0, l, r, _, hl, h => by
    have e : l = [] := List.eq_nil_of_length_eq_zero hl
    have e2 : r = [] := List.mem_singleton.mp h
    rw [e, e2]
  | n + 1, l, r, hn, hl, h => by
    have h' : r ∈ l.flatMap fun x => (Diag.arranged n (l.filter fun y => y != x)).map fun r => x :: r := h
    obtain ⟨x, hx, hr⟩ := List.mem_flatMap.mp h'
    obtain ⟨s, hs, rfl⟩ := List.mem_map.mp hr
    have ld := drop_one l x hn hx
    have q := arr_perm n _ s (hn.sublist List.filter_sublist) (by omega) hs
    refine (List.Perm.cons x q).trans ?_
    refine (perm_of_sub l (x :: l.filter fun y => y != x) hn (fun y hy => ?_) (by rw [List.length_cons]; omega))
    by_cases e : y = x
    · rw [e]
      exact List.mem_cons_self
    · exact List.mem_cons_of_mem _ (List.mem_filter.mpr ⟨hy, by simpa using e⟩)
theorem arr_head : ∀ (n : Nat) (l : List Nat), l.Nodup → l.length = n → ∃ t, Diag.arranged n l = l :: t
  | 0, l, _, hl => by
    have e : l = [] := List.eq_nil_of_length_eq_zero hl
    rw [e]
    exact ⟨[], rfl⟩
  | n + 1, [], _, hl => by cases hl
  | n + 1, x :: r, hn, hl => by
    have hn' := List.nodup_cons.mp hn
    have ef : (x :: r).filter (fun y => y != x) = r := by
      rw [List.filter_cons, if_neg (by simp)]
      refine List.filter_eq_self.mpr fun y hy => ?_
      have : y ≠ x := fun z => hn'.1 (z ▸ hy)
      simpa using this
    obtain ⟨t, et⟩ := arr_head n r hn'.2 (by simpa using hl)
    have h : Diag.arranged (n + 1) (x :: r) = ((Diag.arranged n ((x :: r).filter fun y => y != x)).map fun s => x :: s) ++ r.flatMap fun z => (Diag.arranged n ((x :: r).filter fun y => y != z)).map fun s => z :: s := List.flatMap_cons
    rw [h, ef, et]
    exact ⟨_, rfl⟩
/-- the variables that are left -/
def varsL (vs : List Nat) (d : Nat) : List Nat := (placesN d vs.length).map fun p => vs.getD p 0
theorem varsL_or {vs : List Nat} (hn : vs.Nodup) {d p : Nat} (hp : p < vs.length) : varsL vs (d ||| (1 <<< p)) = (varsL vs d).filter fun v => v != vs.getD p 0 := by
  unfold varsL
  rw [places_or, List.filter_map]
  congr 1
  refine List.filter_congr fun q hq => ?_
  have hq2 := (places_mem.mp hq).1
  rw [Bool.eq_iff_iff]
  show (q != p) = true ↔ (vs.getD q 0 != vs.getD p 0) = true
  rw [bne_iff_ne, bne_iff_ne]
  have eq1 : vs[q]? = some (vs.getD q 0) := by rw [List.getD_eq_getElem?_getD, List.getElem?_eq_getElem hq2]; rfl
  have eq2 : vs[p]? = some (vs.getD p 0) := by rw [List.getD_eq_getElem?_getD, List.getElem?_eq_getElem hp]; rfl
  constructor
  · intro h z
    rw [z] at eq1
    exact h ((List.getElem?_inj hq2 hn).mp (eq1.trans eq2.symm))
  · intro h z
    exact h (by rw [z])
theorem rows_at {f : Nat} {vs : List Nat} {d p : Nat} (hd : d < 2 ^ vs.length) (hp : p < vs.length) : ((rowsB f vs).getD d []).getD p 0 = nnN (pR f vs d) (vs.getD p 0) := by
  have e1 : (rowsB f vs)[d]? = some (rowN vs (pR f vs d)) := by
    unfold rowsB
    rw [List.getElem?_map, tabN_at f vs (show d ≤ 2 ^ vs.length - 1 by omega)]
    rfl
  rw [List.getD_eq_getElem?_getD (l := rowsB f vs), e1]
  show (rowN vs (pR f vs d)).getD p 0 = _
  unfold rowN
  rw [List.getD_eq_getElem?_getD, List.getElem?_map, List.getD_eq_getElem?_getD, List.getElem?_eq_getElem hp]
  rfl
theorem places_or_len {d n p : Nat} (hp : p ∈ placesN d n) : (placesN (d ||| (1 <<< p)) n).length + 1 = (placesN d n).length := by
  rw [places_or]
  exact drop_one _ p (places_nodup d n) hp
theorem places_all {d n : Nat} (hd : d < 2 ^ n) (h : placesN d n = []) : d = 2 ^ n - 1 := by
  refine Classical.byContradiction fun z => ?_
  exact places_ne' (show d + 1 < 2 ^ n by omega) h
/-- the search takes the first of the best, from any place on -/
theorem search_ok {f : Nat} {vs : List Nat} (hf : f < Full) (hv : ∀ v ∈ vs, v < 10) (hn : vs.Nodup) : ∀ (k d : Nat), d < 2 ^ vs.length → (placesN d vs.length).length = k →
    IsFirst (costF (pR f vs d)) (Diag.arranged k (varsL vs d)) (takeN (rowsB f vs) (fewB f vs) vs k d) ∧ costF (pR f vs d) (takeN (rowsB f vs) (fewB f vs) vs k d) = (fewB f vs).getD d 0
  | 0, d, hd, hk => by
    have e := places_all hd (List.eq_nil_of_length_eq_zero hk)
    refine ⟨⟨[], [], rfl, fun z hz => (by cases hz), fun z hz => (by cases hz)⟩, ?_⟩
    rw [e]
    exact (few_top _ _).symm
  | k + 1, d, hd, hk => by
    have ne : placesN d vs.length ≠ [] := fun z => by rw [z] at hk; cases hk
    have step : ∀ p ∈ placesN d vs.length, IsFirst (costF (pR f vs (d ||| (1 <<< p)))) (Diag.arranged k (varsL vs (d ||| (1 <<< p)))) (takeN (rowsB f vs) (fewB f vs) vs k (d ||| (1 <<< p))) ∧
        costF (pR f vs (d ||| (1 <<< p))) (takeN (rowsB f vs) (fewB f vs) vs k (d ||| (1 <<< p))) = (fewB f vs).getD (d ||| (1 <<< p)) 0 := fun p hp =>
      search_ok hf hv hn k _ (or_lt hd (places_mem.mp hp).1) (by have := places_or_len hp; omega)
    have cost : ∀ p ∈ placesN d vs.length, ∀ r, costF (pR f vs d) (vs.getD p 0 :: r) = nnN (pR f vs d) (vs.getD p 0) + costF (pR f vs (d ||| (1 <<< p))) r := fun p hp r => by
      obtain ⟨p1, p2⟩ := places_mem.mp hp
      show nnN _ _ + costF (fixedP (pR f vs d) (vs.getD p 0)) r = _
      rw [SetEq.cost r (pR_or hf hv hn p1 d hd p2) (pR_nodup f vs _) (fixedP_nodup _ _)]
    have thr : ∀ p ∈ placesN d vs.length, thrN (rowsB f vs) (fewB f vs) d p = nnN (pR f vs d) (vs.getD p 0) + (fewB f vs).getD (d ||| (1 <<< p)) 0 := fun p hp => by
      unfold thrN
      rw [rows_at hd (places_mem.mp hp).1]
    have hm := firstBy_mem (thrN (rowsB f vs) (fewB f vs) d) _ ne
    have ecost : ∀ p ∈ placesN d vs.length, costF (pR f vs d) (vs.getD p 0 :: takeN (rowsB f vs) (fewB f vs) vs k (d ||| (1 <<< p))) = thrN (rowsB f vs) (fewB f vs) d p := fun p hp => by
      rw [cost p hp, (step p hp).2, thr p hp]
    have earr : Diag.arranged (k + 1) (varsL vs d) = (placesN d vs.length).flatMap fun p => (Diag.arranged k (varsL vs (d ||| (1 <<< p)))).map fun r => vs.getD p 0 :: r := by
      show ((placesN d vs.length).map fun p => vs.getD p 0).flatMap (fun x => (Diag.arranged k ((varsL vs d).filter fun y => y != x)).map fun r => x :: r) = _
      rw [List.flatMap_map, List.flatMap_def, List.flatMap_def]
      congr 1
      refine List.map_congr_left fun p hp => ?_
      rw [varsL_or hn (places_mem.mp hp).1]
    refine ⟨?_, ?_⟩
    · rw [earr]
      refine IsFirst.bind (y := fun p => vs.getD p 0 :: takeN (rowsB f vs) (fewB f vs) vs k (d ||| (1 <<< p))) (fun p hp => IsFirst.map (g := fun r => vs.getD p 0 :: r) ?_) ((firstBy_is (thrN (rowsB f vs) (fewB f vs) d) _ ne).congr fun p hp => ecost p hp)
      exact ((step p hp).1.add (nnN (pR f vs d) (vs.getD p 0))).congr fun r _ => cost p hp r
    · refine (ecost _ hm).trans ?_
      refine (firstBy_least (thrN (rowsB f vs) (fewB f vs) d) ne).trans ?_
      have d1 : d + 1 < 2 ^ vs.length := by
        have h2 := or_gt (n := vs.length) (places_mem.mp hm).2
        have h3 := or_lt hd (places_mem.mp hm).1
        omega
      exact (few_at (rowsB f vs) vs.length d1).symm
end Ten
namespace Ten
/-! The search for the best order answers as the specification says. -/
theorem hang_mem {f v : Nat} : v ∈ hangs f ↔ v < 10 ∧ hang f v = true := by
  unfold hangs
  rw [List.mem_filter, List.mem_range]
theorem hangs_nodup (f : Nat) : (hangs f).Nodup := List.nodup_range.sublist List.filter_sublist
theorem cost_app : ∀ (r s ps : List Nat), costF ps (r ++ s) = costF ps r + costF (r.foldl fixedP ps) s
  | [], s, ps => (Nat.zero_add _).symm
  | v :: r, s, ps => by
    show nnN ps v + costF (fixedP ps v) (r ++ s) = nnN ps v + costF (fixedP ps v) r + costF (r.foldl fixedP (fixedP ps v)) s
    rw [cost_app r s, Nat.add_assoc]
/-- none of these matters to any -/
def Off (ps s : List Nat) : Prop := ∀ p ∈ ps, p < Full ∧ ∀ v ∈ s, hang p v = false
theorem Off.fixed {ps s : List Nat} (h : Off ps s) (hs : ∀ v ∈ s, v < 10) {u : Nat} (hu : u < 10) : Off (fixedP ps u) s := fun g hg => by
  obtain ⟨p, hp, z, rfl⟩ := fixedP_mem.mp hg
  exact ⟨fixN_lt z (h p hp).1 hu, fun v hv => hang_fix (h p hp).1 (hs v hv) hu z ((h p hp).2 v hv)⟩
theorem Off.fold {s : List Nat} (hs : ∀ v ∈ s, v < 10) : ∀ (r ps : List Nat), (∀ u ∈ r, u < 10) → Off ps s → Off (r.foldl fixedP ps) s
  | [], _, _, h => h
  | u :: r, ps, hr, h => Off.fold hs r _ (fun v hv => hr v (List.mem_cons_of_mem _ hv)) (h.fixed hs (hr u List.mem_cons_self))
theorem cost_off : ∀ (s ps : List Nat), (∀ v ∈ s, v < 10) → Off ps s → costF ps s = 0
  | [], _, _, _ => rfl
  | v :: s, ps, hs, h => by
    have hv := hs v List.mem_cons_self
    have hs' : ∀ u ∈ s, u < 10 := fun u hu => hs u (List.mem_cons_of_mem _ hu)
    have h' : Off ps s := fun p hp => ⟨(h p hp).1, fun u hu => (h p hp).2 u (List.mem_cons_of_mem _ hu)⟩
    have e : nnN ps v = 0 := by
      unfold nnN
      rw [List.length_eq_zero_iff, List.filter_eq_nil_iff]
      intro p hp
      rw [(h p hp).2 v List.mem_cons_self]
      decide
    show nnN ps v + costF (fixedP ps v) s = 0
    rw [e, cost_off s _ hs' (h'.fixed hs' hv)]
theorem full_order {f : Nat} {r : List Nat} (h : r.Perm (hangs f)) : Diag.isOrder (Diag.full r) = true := by
  have hn : r.Nodup := h.nodup_iff.mpr (hangs_nodup f)
  have hr : ∀ v ∈ r, v < 10 := fun v hv => (hang_mem.mp (h.mem_iff.mp hv)).1
  have mem : ∀ v, v ∈ Diag.full r ↔ v < 10 := fun v => by
    unfold Diag.full
    rw [List.mem_append, List.mem_filter]
    constructor
    · rintro (z | ⟨z, _⟩)
      · exact hr v z
      · exact List.mem_range.mp z
    · intro z
      by_cases m : v ∈ r
      · exact .inl m
      · refine .inr ⟨List.mem_range.mpr z, ?_⟩
        simpa using m
  have fn : (Diag.full r).Nodup := by
    unfold Diag.full
    refine List.nodup_append.mpr ⟨hn, List.nodup_range.sublist List.filter_sublist, fun x hx y hy e => ?_⟩
    subst e
    have q := (List.mem_filter.mp hy).2
    simp [hx] at q
  rw [order_perm]
  refine perm_of_sub _ _ List.nodup_range (fun x hx => (mem x).mpr (List.mem_range.mp hx)) ?_
  exact sub_len _ _ fn fun x hx => List.mem_range.mpr ((mem x).mp hx)
theorem full_cost {f : Nat} (hf : f < Full) {r : List Nat} (h : r.Perm (hangs f)) : (Diag.nodesOf (Diag.full r) f).length = costF [f] r := by
  rw [nodes_cost (full_order h) hf]
  have hr : ∀ v ∈ r, v < 10 := fun v hv => (hang_mem.mp (h.mem_iff.mp hv)).1
  unfold Diag.full
  rw [cost_app]
  have hs : ∀ v ∈ (List.range Diag.VARS).filter (fun v => !r.contains v), v < 10 := fun v hv => List.mem_range.mp (List.mem_filter.mp hv).1
  rw [cost_off _ _ hs (Off.fold hs r [f] hr fun p hp => ?_)]
  · rfl
  · rw [List.mem_singleton.mp hp]
    refine ⟨hf, fun v hv => ?_⟩
    obtain ⟨v1, v2⟩ := List.mem_filter.mp hv
    cases c : hang f v with
    | false => rfl
    | true =>
      have m : v ∈ r := h.mem_iff.mpr (hang_mem.mpr ⟨List.mem_range.mp v1, c⟩)
      simp [m] at v2
theorem varsL_zero (vs : List Nat) : varsL vs 0 = vs := by
  have q : placesN 0 vs.length = List.range vs.length := by
    unfold placesN
    refine List.filter_eq_self.mpr fun p _ => ?_
    rw [decide_eq_true_iff, bit_zero, Nat.zero_testBit]
  unfold varsL
  rw [q]
  refine List.ext_getElem (by rw [List.length_map, List.length_range]) fun i h1 h2 => ?_
  rw [List.getElem_map, List.getElem_range, List.getD_eq_getElem?_getD, List.getElem?_eq_getElem h2]
  rfl
theorem best_eq {f : Nat} (hf : f < Full) (h5 : (hangs f).length ≤ 5) : Diag.best f = ((bestN f (hangs f)).2, (bestN f (hangs f)).1) := by
  have hn := hangs_nodup f
  have hv : ∀ v ∈ hangs f, v < 10 := fun v h => (hang_mem.mp h).1
  have pl : (placesN 0 (hangs f).length).length = (hangs f).length := by
    have e := congrArg List.length (varsL_zero (hangs f))
    unfold varsL at e
    rw [List.length_map] at e
    exact e
  obtain ⟨s1, s2⟩ := search_ok hf hv hn (hangs f).length 0 (Nat.two_pow_pos _) pl
  rw [varsL_zero, pR_zero] at s1
  rw [pR_zero] at s2
  have key : ∀ r ∈ Diag.arranged (hangs f).length (hangs f), (Diag.nodesOf (Diag.full r) f).length = costF [f] r := fun r hr => full_cost hf (arr_perm _ _ r hn rfl hr)
  have s3 : IsFirst (fun r => (Diag.nodesOf (Diag.full r) f).length) (Diag.arranged (hangs f).length (hangs f)) (takeN (rowsB f (hangs f)) (fewB f (hangs f)) (hangs f) (hangs f).length 0) := s1.congr key
  have e1 : (Diag.nodesOf (Diag.full (takeN (rowsB f (hangs f)) (fewB f (hangs f)) (hangs f) (hangs f).length 0)) f).length = (fewB f (hangs f)).getD 0 0 := (key _ s3.mem).trans s2
  obtain ⟨t, et⟩ := arr_head (hangs f).length (hangs f) hn rfl
  have s4 : IsFirst (fun r => (Diag.nodesOf (Diag.full r) f).length) (hangs f :: Diag.arranged (hangs f).length (hangs f)) (takeN (rowsB f (hangs f)) (fewB f (hangs f)) (hangs f) (hangs f).length 0) := by
    obtain ⟨pre, post, ex, h1, h2⟩ := s3
    cases pre with
    | nil =>
      rw [et] at ex
      injection ex with x1 x2
      refine ⟨[], Diag.arranged (hangs f).length (hangs f), by rw [← x1]; rfl, fun z hz => (by cases hz), fun z hz => ?_⟩
      rw [et] at hz
      rcases List.mem_cons.mp hz with q | q
      · rw [q, ← x1]
        exact Nat.le_refl _
      · exact h2 z (x2 ▸ q)
    | cons c pre =>
      have ec : hangs f = c := by
        rw [et] at ex
        injection ex
      refine ⟨c :: c :: pre, post, by rw [ex, ← ec]; rfl, fun z hz => ?_, h2⟩
      rcases List.mem_cons.mp hz with q | q
      · rw [q]
        exact h1 c List.mem_cons_self
      · exact h1 z q
  have e2 := fold_first _ _ s4
  unfold Diag.best
  rw [matters_eq hf]
  refine e2.trans ?_
  rw [e1, take_ord]
  rfl
theorem st_best {fs : List Nat} (W : Wf fs) {x : Nat} (hx : x < 16) (h5 : (hangs (Diag.reg fs x)).length ≤ 5) :
    Diag.step fs (.best x) = (fs, ⟨(((bestN (Diag.reg fs x) (hangs (Diag.reg fs x))).1 : Nat) : Int), [(bestN (Diag.reg fs x) (hangs (Diag.reg fs x))).2]⟩) := by
  have hf := reg_lt W x
  show (fs, if Diag.isReg x = false then Diag.says (-1) else if Diag.FEW < (Diag.matters (Diag.reg fs x)).length then Diag.says (-6) else ⟨((Diag.best (Diag.reg fs x)).2 : Nat), [(Diag.best (Diag.reg fs x)).1]⟩) = _
  rw [if_neg (by rw [isReg_t hx]; decide), matters_eq hf, if_neg (show ¬ Diag.FEW < (hangs (Diag.reg fs x)).length from fun z => Nat.lt_irrefl _ (Nat.lt_of_lt_of_le z h5)), best_eq hf h5]
theorem no_best {fs : List Nat} {x : Nat} (h : ¬ x < 16) : Diag.step fs (.best x) = (fs, Diag.says (-1)) := by
  show (fs, if Diag.isReg x = false then Diag.says (-1) else _) = _
  rw [if_pos (isReg_f h)]
theorem many_best {fs : List Nat} (W : Wf fs) {x : Nat} (hx : x < 16) (h5 : 5 < (hangs (Diag.reg fs x)).length) : Diag.step fs (.best x) = (fs, Diag.says (-6)) := by
  have hf := reg_lt W x
  show (fs, if Diag.isReg x = false then Diag.says (-1) else if Diag.FEW < (Diag.matters (Diag.reg fs x)).length then Diag.says (-6) else _) = _
  rw [if_neg (by rw [isReg_t hx]; decide), matters_eq hf, if_pos (show Diag.FEW < (hangs (Diag.reg fs x)).length from h5)]
end Ten
namespace Ten
open PySem PySem.Spec PyProof.Rows L2 LamX
/-! call_best; answer_of. -/
/-- all stands but the registers' list and the tables of code objects -/
def KeptT (a : Ad) (H H' : Hp) (st : Addr) : Prop := ∀ dx cs fl, H st = some (.ins a.c_State dx (stF cs fl)) → ∀ b o, H b = some o → b ≠ fl → (∀ ps, o ≠ .tbl ps) → H' b = some o
/-- new, but for a table -/
def FreeT (H : Hp) (p : Addr) : Prop := ∀ o, H p = some o → ∃ ps, o = .tbl ps
def AnsEnds (a : Ad) (K : PySem.W.Frag) (H : Hp) (st : Addr) (fs : List Nat) (r : List Nat × Diag.Answer) (Q : VK) (E : XK) : Prop :=
  (∀ (H' : Hp) (p : Addr), StateAt a H' st r.1 → KeptT a H H' st → Tabs (TB0 a) H' → FreeT H p → H' p = some (.lst (shV r.2)) → Q (.ref p) H') ∧ (∀ i, r = (fs, Diag.says i) → Ref K a.c_Refusal H E i)
theorem AnsEnds.call {a : Ad} {K : PySem.W.Frag} {H : Hp} {st : Addr} {fs : List Nat} {r : List Nat × Diag.Answer} {Q : VK} {E : XK} (h : AnsEnds a K H st fs r Q E) (S : StateAt a H st fs) (T : Tabs (TB0 a) H) : CallEnds a K H st fs r Q E := by
  obtain ⟨hz, dx, cs, fl, e1, C, e3⟩ := S
  refine ⟨fun H' p S' k hp he => h.1 H' p S' (fun dx' cs' fl' e b o eb nb _ => k dx' cs' fl' e b o eb nb) (fun q hq => ?_) (fun o e => by rw [hp] at e; cases e) he, h.2⟩
  obtain ⟨ps, t1, t2, t3⟩ := T q hq
  refine ⟨ps, k dx cs fl e1 _ _ t1 (ne_of t1 e3 (by simp)), t2, fun pos cv hc => ?_⟩
  obtain ⟨c, u1, u2⟩ := t3 pos cv hc
  exact ⟨c, u1, k dx cs fl e1 _ _ u2 (ne_of u2 e3 fun z => by unfold CodeO at z; cases z)⟩
def mk_best : List Nat → Diag.Call := fun ns => .best (ns.getD 0 0)
section
variable {P : Program} {w : World} {K : PySem.W.Frag} {mg : Str → Option Value} {base : Heap} {a : Ad}
def spBest (a : Ad) (K : PySem.W.Frag) : Sp := fun vs H Q E => ∃ (st g : Addr) (fs ns : List Nat), vs = [.ref st, .ref g] ∧ Tabs (TB0 a) H ∧ StateAt a H st fs ∧ Wf fs ∧ H g = some (.lst (nVs ns)) ∧ ns.length = 1 ∧ AnsEnds a K H st fs (Diag.step fs (mk_best ns)) Q E
theorem scKbest : FnScope ["state", "given", "function", "variables", "nodes", "order"] ["state", "given"] (defScope s_call_best) := ⟨rfl, rfl, rfl, by decide +kernel, rfl, by decide +kernel, by decide +kernel⟩
theorem hangs_lt (f : Nat) : ∀ v ∈ hangs f, v < 10 := fun v hv => by
  unfold hangs at hv
  exact List.mem_range.mp (List.mem_filter.mp hv).1
theorem ok_kbest (T : Txt K mg a) (TB : TabB base mg a.k_best a.p_best) : FnOk P w K mg base (L2.CX P w) 8 a.f_call_best a.d_call_best ["state", "given"] (spBest a K) := by
  refine T.call_best.F.okX scKbest (fun vs H Q E h => ?_) (fun cdv A outer s H vs Q E hr h => ⟨_, pss_cons (ps_expr (pe_call (ok_regs T) (hr.mono (by decide)) rfl T.check_registers.g T.check_registers.F.kp T.check_registers.b .nil (passR (takes_of rfl rfl rfl rfl)) (pa_cons (pv 1) pa_nil)))
    (pss_cons (ps_set (i := 2) scKbest.nd rfl (.inl rfl) (pe_ix ix_list (pe_fld (pv 0) rfl) (pe_ix ix_list (pv 1) pe_int (fun _ _ => rfl)) (fun _ _ => rfl)))
    (pss_cons (ps_set (i := 3) scKbest.nd rfl (.inl rfl) (pe_meth (pe_fld (pv 0) rfl) T.cl_Cases T.Cases_mattering.M (ok_mtg T) (hr.mono (by decide)) T.Cases_mattering.b .nil pass0 (pa_cons (pv 2) pa_nil)))
    (pss_cons (ps_if (pt_cmpR opn_gt (pe_callB call_len_seq (by rfl) T.b_len PySem.boot_len (pa_cons (pv 3) pa_nil)) (pe_gi rfl T.i_MOST_MATTERING) (nomark _)) (pss_one (ps_raise rfl (takes_of rfl rfl rfl rfl) (pmk_x T.x_TooManyMatter (ok_too T) (hr.mono (by decide)) T.TooManyMatter_init_b pass0 rfl))) pss_nil)
    (pss_cons (ps_asg (pe_call (ok_bo T TB) (hr.mono (by decide)) rfl T.best_order.g T.best_order.F.kp T.best_order.b .nil pass0 (pa_cons (pe_fld (pv 0) rfl) (pa_cons (pv 2) (pa_cons (pv 3) pa_nil)))) (pg_tup rfl (pgs_cons (pg_name (i := 4) scKbest.nd rfl (.inl rfl)) (pgs_cons (pg_name (i := 5) scKbest.nd rfl (.inl rfl)) pgs_nil))))
    (pss_one (ps_ret (pe_op op_cat (pe_lst (pa_cons (pv 4) pa_nil)) (pe_call (ok_wl T) (hr.mono (by decide)) rfl T.with_length.g T.with_length.F.kp T.with_length.b .nil pass0 (pa_cons (pv 5) pa_nil))))))))), ?_⟩)
  · obtain ⟨st, g, fs, ns, rfl, _⟩ := h
    rfl
  · obtain ⟨st, g, fs, ns, rfl, TT, S, W, hg, hl, ends⟩ := h
    match ns, hl with
    | [x], _ =>
      replace ends : AnsEnds a K H st fs (Diag.step fs (.best x)) Q E := ends
      refine ⟨_, rfl, g, _, rfl, SqL.of hg, fun ok => ?_, fun bad => ?_⟩
      · rw [regs1] at ok
        refine rd_reg T rfl S ok ⟨_, rfl, g, _, 0, _, rfl, rfl, SqL.of hg, at_nat (j := 0) rfl, rfl, rfl⟩ (fun _ _ k ⟨y, e, p, xs, i, u, e1, e2, e3, e4, z⟩ => ⟨y, e, p, xs, i, u, e1, e2, e3, e4, k _ _ z⟩) ?_
        have hf := reg_lt W x
        refine rd_cs T rfl S (by decide +kernel) fun cs C => ⟨_, rfl, cs, _, rfl, C, hf, fun H1 p S1 hp ep => ?_⟩
        refine ⟨_, rfl, p, _, rfl, .inl (SqL.of ep), (hangs (Diag.reg fs x)).length, 5, ?_, rfl, _, rfl, ?_⟩
        · rw [nVs_len]
        by_cases c : 5 < (hangs (Diag.reg fs x)).length
        · rw [decide_eq_true c]
          refine iteT ?_
          exact ((ends.2 (-6) (many_best W ok c)).same S1).at (σ := []) T.x_TooManyMatter
        · rw [decide_eq_false c]
          have St := S.same S1
          obtain ⟨hz, dx, cs2, fl, e1, C2, e3⟩ := id St
          refine iteF ⟨_, rfl, st, _, dx, _, _, rfl, e1, T.cl_State, T.no_State_cases, stF_cs cs2 fl, _, rfl, _, rfl, ?_⟩
          refine ⟨cs2, p, _, _, rfl, TT.ext S1, C2, ep, hf, by omega, hangs_lt _, fun H2 t o X2 T2 ho et eo => ?_⟩
          refine ⟨t, _, rfl, .inl (.inl et), rfl, _, _, rfl, _, _, rfl, rfl, ?_⟩
          refine ⟨_, rfl, (by show 1 ≤ sizeLine; decide), fun q1 h1 => ?_⟩
          have S3 : Same H2 _ := Same.upd (o := .lst [nV (bestN (Diag.reg fs x) (hangs (Diag.reg fs x))).1]) h1
          have lo : (bestN (Diag.reg fs x) (hangs (Diag.reg fs x))).2.length ≤ 5 := by
            unfold bestN
            show (ordN _ _ _ _).length ≤ 5
            rw [ordN_len]
            omega
          refine ⟨_, rfl, o, _, rfl, S3 _ _ eo, (by rw [nVs_len]; omega), fun H4 q2 S4 h2 e4 => ?_⟩
          refine ⟨q1, q2, _, _, rfl, rfl, S4 _ _ upd_same, e4, ?_, fun q3 h3 => ?_⟩
          · simp only [List.length_cons, List.length_nil, nVs_len, sizeLine_eq]
            omega
          have X5 : ExtN H _ := ((ExtN.of S1).trans X2).trans (ExtN.of (Same.new (Same.trans S3 S4) (o := .lst ([nV (bestN (Diag.reg fs x) (hangs (Diag.reg fs x))).1] ++ (V.int ((nVs (bestN (Diag.reg fs x) (hangs (Diag.reg fs x))).2).length : Nat) :: nVs (bestN (Diag.reg fs x) (hangs (Diag.reg fs x))).2))) h3))
          have h30 : FreeT H q3 := fun ob e => Classical.byContradiction fun z => by
            have q := (((ExtN.of S1).trans X2).trans (ExtN.of (Same.trans S3 S4))) q3 ob e (fun ps z2 => z ⟨ps, z2⟩)
            rw [q] at h3
            cases h3
          have r := ends.1
          rw [st_best W ok (by omega)] at r
          refine r _ q3 ?_ (fun dx' cs' fl' _ b ob eb _ nt => X5 b ob eb nt) ((T2.ext (Same.trans S3 S4)).ext (Same.upd h3)) h30 ?_
          · obtain ⟨hz, dx, cs, fl, e1, ⟨dx2, y, n, c1, c2, c3⟩, e3⟩ := id S
            exact ⟨hz, dx, cs, fl, X5 _ _ e1 (fun _ z => by cases z), ⟨dx2, y, n, X5 _ _ c1 (fun _ z => by cases z), X5 _ _ c2 (fun _ z => by cases z), X5 _ _ c3 (fun _ z => by cases z)⟩, X5 _ _ e3 (fun _ z => by cases z)⟩
          · rw [upd_same, sh_one, nVs_len]
            rfl
      · exact (ends.2 (-1) (no_best (by rw [regs1] at bad; exact bad))).same (Same.refl H)
/-! ### answer_of -/
def mkC : Nat → List Nat → Diag.Call
  | 0 => mk_const
  | 1 => mk_var
  | 2 => mk_not
  | 3 => mk_two
  | 4 => mk_choose
  | 5 => mk_fix
  | 6 => mk_some
  | 7 => mk_all
  | 8 => mk_put
  | 9 => mk_value
  | 10 => mk_count
  | 11 => mk_first
  | 12 => mk_matters
  | 14 => mk_best
  | _ => mk_within
/-- what is given with the call of the number c -/
def GivenIs (H : Hp) (g : Addr) (c : Nat) (call : Diag.Call) : Prop :=
  (c ≠ 13 ∧ ∃ ns, H g = some (.lst (nVs ns)) ∧ ns.length = plN c ∧ call = mkC c ns) ∨ (c = 13 ∧ ∃ x ol o, H g = some (.lst [nV x, .ref ol]) ∧ H ol = some (.lst (nVs o)) ∧ call = .diagram x o)
def defsC (a : Ad) (K : PySem.W.Frag) : List (Addr × Sp) := [(a.f_call_const, spCall a K 2 mk_const), (a.f_call_var, spCall a K 2 mk_var), (a.f_call_not, spCall a K 2 mk_not), (a.f_call_two, spCall a K 4 mk_two), (a.f_call_choose, spCall a K 4 mk_choose),
  (a.f_call_fix, spCall a K 4 mk_fix), (a.f_call_some, spCall a K 3 mk_some), (a.f_call_all, spCall a K 3 mk_all), (a.f_call_put, spCall a K 4 mk_put), (a.f_call_value, spCall a K 2 mk_value), (a.f_call_count, spCall a K 1 mk_count), (a.f_call_first, spCall a K 2 mk_first),
  (a.f_call_matters, spCall a K 1 mk_matters), (a.f_call_diagram, spDiag a K), (a.f_call_best, spBest a K), (a.f_call_within, spCall a K 2 mk_within)]
theorem held (T : Txt K mg a) (TB : TabB base mg a.k_best a.p_best) (f : Addr) (sp : Sp) (h : (f, sp) ∈ defsC a K) : HeldX P w K mg base 17 f sp := by
  unfold defsC at h
  simp only [List.mem_cons, List.not_mem_nil, or_false, Prod.mk.injEq] at h
  rcases h with ⟨rfl, rfl⟩ | ⟨rfl, rfl⟩ | ⟨rfl, rfl⟩ | ⟨rfl, rfl⟩ | ⟨rfl, rfl⟩ | ⟨rfl, rfl⟩ | ⟨rfl, rfl⟩ | ⟨rfl, rfl⟩ | ⟨rfl, rfl⟩ | ⟨rfl, rfl⟩ | ⟨rfl, rfl⟩ | ⟨rfl, rfl⟩ | ⟨rfl, rfl⟩ | ⟨rfl, rfl⟩ | ⟨rfl, rfl⟩ | ⟨rfl, rfl⟩
  · exact ⟨_, _, 8, by decide, ok_kconst T, T.call_const.F.kp, T.call_const.b⟩
  · exact ⟨_, _, 8, by decide, ok_kvar T, T.call_var.F.kp, T.call_var.b⟩
  · exact ⟨_, _, 8, by decide, ok_knot T, T.call_not.F.kp, T.call_not.b⟩
  · exact ⟨_, _, 8, by decide, ok_ktwo T, T.call_two.F.kp, T.call_two.b⟩
  · exact ⟨_, _, 8, by decide, ok_kchoose T, T.call_choose.F.kp, T.call_choose.b⟩
  · exact ⟨_, _, 8, by decide, ok_kfix T, T.call_fix.F.kp, T.call_fix.b⟩
  · exact ⟨_, _, 8, by decide, ok_ksome T, T.call_some.F.kp, T.call_some.b⟩
  · exact ⟨_, _, 8, by decide, ok_kall T, T.call_all.F.kp, T.call_all.b⟩
  · exact ⟨_, _, 8, by decide, ok_kput T, T.call_put.F.kp, T.call_put.b⟩
  · exact ⟨_, _, 8, by decide, ok_kvalue T, T.call_value.F.kp, T.call_value.b⟩
  · exact ⟨_, _, 8, by decide, ok_kcount T, T.call_count.F.kp, T.call_count.b⟩
  · exact ⟨_, _, 8, by decide, ok_kfirst T, T.call_first.F.kp, T.call_first.b⟩
  · exact ⟨_, _, 8, by decide, ok_kmatters T, T.call_matters.F.kp, T.call_matters.b⟩
  · exact ⟨_, _, 17, by decide, ok_kdiagram T, T.call_diagram.F.kp, T.call_diagram.b⟩
  · exact ⟨_, _, 8, by decide, ok_kbest T TB, T.call_best.F.kp, T.call_best.b⟩
  · exact ⟨_, _, 8, by decide, ok_kwithin T, T.call_within.F.kp, T.call_within.b⟩
def spAn (a : Ad) (K : PySem.W.Frag) : Sp := fun vs H Q E => ∃ (st g : Addr) (c : Nat) (fs : List Nat) (call : Diag.Call), vs = [.ref st, nV c, .ref g] ∧ c < 16 ∧ Tabs (TB0 a) H ∧ StateAt a H st fs ∧ Wf fs ∧ GivenIs H g c call ∧ AnsEnds a K H st fs (Diag.step fs call) Q E
theorem scAn : FnScope ["state", "number", "given"] ["state", "number", "given"] (defScope s_answer_of) := ⟨rfl, rfl, rfl, by decide +kernel, rfl, by decide +kernel, by decide +kernel⟩
theorem ok_an (T : Txt K mg a) (TB : TabB base mg a.k_best a.p_best) : FnOk P w K mg base (L2.CX P w) 18 a.f_answer_of a.d_answer_of ["state", "number", "given"] (spAn a K) := by
  refine T.answer_of.F.okX scAn (fun vs H Q E h => ?_) (fun cdv A outer s H vs Q E hr h => ⟨_, pss_one (ps_ret (pe_callT (S := fun f sp => (f, sp) ∈ defsC a K) (pe_ix ix_tup (pe_glob (v := .ref a.t_calls) rfl T.gC rfl) (pv 1) (fun _ _ => rfl)) (held T TB) hr (passR (takes_of rfl rfl rfl rfl)) (pa_cons (pv 0) (pa_cons (pv 2) pa_nil)))), ?_⟩)
  · obtain ⟨st, g, c, fs, call, rfl, _⟩ := h
    rfl
  · obtain ⟨st, g, c, fs, call, rfl, hc, TT, S, W, G, ends⟩ := h
    suffices pick : ∃ (f : Addr) (sp : Sp), atI ([.ref a.f_call_const, .ref a.f_call_var, .ref a.f_call_not, .ref a.f_call_two, .ref a.f_call_choose, .ref a.f_call_fix, .ref a.f_call_some, .ref a.f_call_all, .ref a.f_call_put, .ref a.f_call_value, .ref a.f_call_count, .ref a.f_call_first, .ref a.f_call_matters, .ref a.f_call_diagram, .ref a.f_call_best, .ref a.f_call_within] : List V) ((c : Nat) : Int) = some (.ref f) ∧ (f, sp) ∈ defsC a K ∧ sp [.ref st, .ref g] H Q E by
      obtain ⟨f, sp, h1, h2, h3⟩ := pick
      exact ⟨_, rfl, a.t_calls, _, c, .ref f, rfl, rfl, T.sC _, h1, f, sp, rfl, h2, _, rfl, _, rfl, h3⟩
    rcases G with ⟨n13, ns, g1, g2, rfl⟩ | ⟨rfl, x, ol, o, g1, g2, rfl⟩
    · rcases (show c = 0 ∨ c = 1 ∨ c = 2 ∨ c = 3 ∨ c = 4 ∨ c = 5 ∨ c = 6 ∨ c = 7 ∨ c = 8 ∨ c = 9 ∨ c = 10 ∨ c = 11 ∨ c = 12 ∨ c = 14 ∨ c = 15 by omega) with rfl | rfl | rfl | rfl | rfl | rfl | rfl | rfl | rfl | rfl | rfl | rfl | rfl | rfl | rfl
      · exact ⟨_, _, at_nat (j := 0) rfl, (show (a.f_call_const, spCall a K 2 mk_const) ∈ defsC a K by simp [defsC]), st, g, fs, ns, rfl, S, W, g1, g2, ends.call S TT⟩
      · exact ⟨_, _, at_nat (j := 1) rfl, (show (a.f_call_var, spCall a K 2 mk_var) ∈ defsC a K by simp [defsC]), st, g, fs, ns, rfl, S, W, g1, g2, ends.call S TT⟩
      · exact ⟨_, _, at_nat (j := 2) rfl, (show (a.f_call_not, spCall a K 2 mk_not) ∈ defsC a K by simp [defsC]), st, g, fs, ns, rfl, S, W, g1, g2, ends.call S TT⟩
      · exact ⟨_, _, at_nat (j := 3) rfl, (show (a.f_call_two, spCall a K 4 mk_two) ∈ defsC a K by simp [defsC]), st, g, fs, ns, rfl, S, W, g1, g2, ends.call S TT⟩
      · exact ⟨_, _, at_nat (j := 4) rfl, (show (a.f_call_choose, spCall a K 4 mk_choose) ∈ defsC a K by simp [defsC]), st, g, fs, ns, rfl, S, W, g1, g2, ends.call S TT⟩
      · exact ⟨_, _, at_nat (j := 5) rfl, (show (a.f_call_fix, spCall a K 4 mk_fix) ∈ defsC a K by simp [defsC]), st, g, fs, ns, rfl, S, W, g1, g2, ends.call S TT⟩
      · exact ⟨_, _, at_nat (j := 6) rfl, (show (a.f_call_some, spCall a K 3 mk_some) ∈ defsC a K by simp [defsC]), st, g, fs, ns, rfl, S, W, g1, g2, ends.call S TT⟩
      · exact ⟨_, _, at_nat (j := 7) rfl, (show (a.f_call_all, spCall a K 3 mk_all) ∈ defsC a K by simp [defsC]), st, g, fs, ns, rfl, S, W, g1, g2, ends.call S TT⟩
      · exact ⟨_, _, at_nat (j := 8) rfl, (show (a.f_call_put, spCall a K 4 mk_put) ∈ defsC a K by simp [defsC]), st, g, fs, ns, rfl, S, W, g1, g2, ends.call S TT⟩
      · exact ⟨_, _, at_nat (j := 9) rfl, (show (a.f_call_value, spCall a K 2 mk_value) ∈ defsC a K by simp [defsC]), st, g, fs, ns, rfl, S, W, g1, g2, ends.call S TT⟩
      · exact ⟨_, _, at_nat (j := 10) rfl, (show (a.f_call_count, spCall a K 1 mk_count) ∈ defsC a K by simp [defsC]), st, g, fs, ns, rfl, S, W, g1, g2, ends.call S TT⟩
      · exact ⟨_, _, at_nat (j := 11) rfl, (show (a.f_call_first, spCall a K 2 mk_first) ∈ defsC a K by simp [defsC]), st, g, fs, ns, rfl, S, W, g1, g2, ends.call S TT⟩
      · exact ⟨_, _, at_nat (j := 12) rfl, (show (a.f_call_matters, spCall a K 1 mk_matters) ∈ defsC a K by simp [defsC]), st, g, fs, ns, rfl, S, W, g1, g2, ends.call S TT⟩
      · exact ⟨_, _, at_nat (j := 14) rfl, (show (a.f_call_best, spBest a K) ∈ defsC a K by simp [defsC]), st, g, fs, ns, rfl, TT, S, W, g1, g2, ends⟩
      · exact ⟨_, _, at_nat (j := 15) rfl, (show (a.f_call_within, spCall a K 2 mk_within) ∈ defsC a K by simp [defsC]), st, g, fs, ns, rfl, S, W, g1, g2, ends.call S TT⟩
    · exact ⟨_, _, at_nat (j := 13) rfl, (show (a.f_call_diagram, spDiag a K) ∈ defsC a K by simp [defsC]), st, g, ol, fs, x, o, rfl, S, W, g1, g2, ends.call S TT⟩
end
end Ten
namespace Ten
/-! The calls of one list, as the specification reads them. -/
def asI (ns : List Nat) : List Int := ns.map fun n => ((n : Nat) : Int)
theorem asI_len (ns : List Nat) : (asI ns).length = ns.length := List.length_map _
theorem asI_take (ns : List Nat) (k : Nat) : (asI ns).take k = asI (ns.take k) := List.map_take.symm
theorem asI_drop (ns : List Nat) (k : Nat) : (asI ns).drop k = asI (ns.drop k) := List.map_drop.symm
theorem shape_eq : ∀ c : Nat, c < 16 → PyWrdiag.shape ((c : Nat) : Int) = some (plN c, if c = 13 then 1 else 0) := by decide
theorem shape_no {c : Nat} (h : 16 ≤ c) : PyWrdiag.shape ((c : Nat) : Int) = none := by
  unfold PyWrdiag.shape
  repeat rw [if_neg (by omega)]
theorem callOf_eq (c : Nat) (args : List Nat) (hc : c < 16) (h13 : c ≠ 13) (h : args.length = plN c) : DiagNeutral.callOf [((c : Nat) : Int) :: asI args] = some (mkC c args) := by
  rcases (show c = 0 ∨ c = 1 ∨ c = 2 ∨ c = 3 ∨ c = 4 ∨ c = 5 ∨ c = 6 ∨ c = 7 ∨ c = 8 ∨ c = 9 ∨ c = 10 ∨ c = 11 ∨ c = 12 ∨ c = 14 ∨ c = 15 by omega) with rfl | rfl | rfl | rfl | rfl | rfl | rfl | rfl | rfl | rfl | rfl | rfl | rfl | rfl | rfl
  all_goals
    first
    | (match args, h with
       | [x], _ => simp [DiagNeutral.callOf, DiagNeutral.whole, asI, mkC, mk_count, mk_matters, mk_best])
    | (match args, h with
       | [x, y], _ => simp [DiagNeutral.callOf, DiagNeutral.whole, asI, mkC, mk_const, mk_var, mk_not, mk_value, mk_first, mk_within])
    | (match args, h with
       | [x, y, z], _ => simp [DiagNeutral.callOf, DiagNeutral.whole, asI, mkC, mk_some, mk_all])
    | (match args, h with
       | [x, y, z, u], _ => simp [DiagNeutral.callOf, DiagNeutral.whole, asI, mkC, mk_two, mk_choose, mk_fix, mk_put])
theorem whole_asI (ns : List Nat) : DiagNeutral.whole (asI ns) = true := by
  unfold DiagNeutral.whole asI
  rw [List.all_eq_true]
  intro x hx
  obtain ⟨n, _, rfl⟩ := List.mem_map.mp hx
  exact decide_eq_true (Int.natCast_nonneg n)
theorem nats_asI (ns : List Nat) : DiagNeutral.nats (asI ns) = ns := by
  unfold DiagNeutral.nats asI
  rw [List.map_map]
  conv => rhs; rw [← List.map_id ns]
  exact List.map_congr_left fun n _ => Int.toNat_natCast n
theorem callOf_diag (x : Nat) (row : List Nat) : DiagNeutral.callOf [[((13 : Nat) : Int), ((x : Nat) : Int)], asI row] = some (.diagram x row) := by
  show (if (DiagNeutral.whole (asI [x]) && DiagNeutral.whole (asI row)) = true then some (Diag.Call.diagram ((x : Nat) : Int).toNat (DiagNeutral.nats (asI row))) else none) = _
  rw [whole_asI, whole_asI, nats_asI, Int.toNat_natCast, if_pos (show (true && true) = true from rfl)]
/-- one call read -/
theorem parse_step {c0 : Nat} {r : List Nat} {c : List (List Int)} {t : List Int} (h : PyFlat.call PyWrdiag.shape (asI (c0 :: r)) = some (c, t)) :
    c0 < 16 ∧ ∃ args tail, r = args ++ tail ∧ args.length = plN c0 ∧ ∃ call, DiagNeutral.callOf c = some call ∧
      ((c0 ≠ 13 ∧ call = mkC c0 args ∧ t = asI tail) ∨ (c0 = 13 ∧ ∃ x row rest, args = [x] ∧ tail = row.length :: (row ++ rest) ∧ call = .diagram x row ∧ t = asI rest)) := by
  have h' : (match PyWrdiag.shape ((c0 : Nat) : Int) with
    | none => none
    | some (n, k) => if (asI r).length < n then none else match PyFlat.rows k ((asI r).drop n) with
      | none => none
      | some (xs, t) => some ((((c0 : Nat) : Int) :: (asI r).take n) :: xs, t)) = some (c, t) := h
  by_cases hc : c0 < 16
  · refine ⟨hc, ?_⟩
    rw [shape_eq c0 hc] at h'
    simp only at h'
    split at h'
    · cases h'
    · rename_i hl
      rw [asI_len] at hl
      rw [asI_drop, asI_take] at h'
      have la : (r.take (plN c0)).length = plN c0 := by
        rw [List.length_take]
        omega
      refine ⟨r.take (plN c0), r.drop (plN c0), (List.take_append_drop _ _).symm, la, ?_⟩
      by_cases h13 : c0 = 13
      · rw [if_pos h13] at h'
        subst h13
        have e1 : plN 13 = 1 := rfl
        rw [e1] at h' la hl ⊢
        cases r with
        | nil => cases la
        | cons x r2 =>
          cases r2 with
          | nil =>
            cases h'
          | cons n r3 =>
            have h2 : (match (if (0 : Int) ≤ ((n : Nat) : Int) ∧ (((n : Nat) : Int)).toNat ≤ (asI r3).length then some ((asI r3).take (((n : Nat) : Int)).toNat, (asI r3).drop (((n : Nat) : Int)).toNat) else none) with
              | none => none
              | some (y, s) => some ([[((13 : Nat) : Int), ((x : Nat) : Int)], y], s)) = some (c, t) := by
              rw [← h']
              show _ = (match (match PyFlat.row (asI (n :: r3)) with | none => none | some (x, s) => match PyFlat.rows 0 s with | none => none | some (xs, t) => some (x :: xs, t)) with | none => none | some (xs, t) => some ((((13 : Nat) : Int) :: asI [x]) :: xs, t))
              show _ = (match (match (if (0 : Int) ≤ ((n : Nat) : Int) ∧ (((n : Nat) : Int)).toNat ≤ (asI r3).length then some ((asI r3).take (((n : Nat) : Int)).toNat, (asI r3).drop (((n : Nat) : Int)).toNat) else none) with | none => none | some (x, s) => some ([x], s)) with | none => none | some (xs, t) => some ((((13 : Nat) : Int) :: asI [x]) :: xs, t))
              split <;> simp_all [asI]
            rw [Int.toNat_natCast, asI_len, asI_take, asI_drop] at h2
            by_cases hn : (0 : Int) ≤ ((n : Nat) : Int) ∧ n ≤ r3.length
            · rw [if_pos hn] at h2
              obtain ⟨rfl, rfl⟩ : [[((13 : Nat) : Int), ((x : Nat) : Int)], asI (r3.take n)] = c ∧ asI (r3.drop n) = t := by
                simpa using h2
              refine ⟨_, callOf_diag x (r3.take n), .inr ⟨rfl, x, r3.take n, r3.drop n, rfl, ?_, rfl, rfl⟩⟩
              show n :: r3 = _
              rw [List.take_append_drop, List.length_take, Nat.min_eq_left hn.2]
            · rw [if_neg hn] at h2
              cases h2
      · rw [if_neg h13] at h'
        have h2 : some ((((c0 : Nat) : Int) :: asI (r.take (plN c0))) :: [], asI (r.drop (plN c0))) = some (c, t) := h'
        obtain ⟨rfl, rfl⟩ : [((c0 : Nat) : Int) :: asI (r.take (plN c0))] = c ∧ asI (r.drop (plN c0)) = t := by simpa using h2
        exact ⟨_, callOf_eq c0 _ hc h13 la, .inl ⟨h13, rfl, rfl⟩⟩
  · rw [shape_no (by omega)] at h'
    cases h'
theorem whole_id (c : List (List Int)) : PyWrdiag.whole c = c := by
  unfold PyWrdiag.whole
  split <;> rfl
end Ten
namespace Ten
open PySem PySem.Spec PyProof.Rows L2 LamX
/-! desk.answers. -/
/-- a list that was handed in -/
def SqF (K : PySem.W.Frag) (H : Hp) (l : Addr) (xs : List V) : Prop := (∃ ob, H l = some (.frz ob (.lst xs))) ∨ ∃ (o : Obj) (its : Array Value) (n : Nat), K.lookup l = some o ∧ o.cls = .type "list" ∧ o.dict = none ∧ o.data = .seq its n ∧ its.size ≤ sizeLine ∧ Vals xs its.toList
theorem SqF.sq {K : PySem.W.Frag} {H : Hp} {l : Addr} {xs : List V} (h : SqF K H l xs) : SqL K H l xs := by
  rcases h with h | h
  · exact .inl (.inr h)
  · exact .inr h
theorem SqF.ext {K : PySem.W.Frag} {H H' : Hp} {l : Addr} {xs : List V} (h : SqF K H l xs) (s : ∀ o, H l = some (.frz o (.lst xs)) → H' l = some (.frz o (.lst xs))) : SqF K H' l xs := by
  rcases h with ⟨ob, h⟩ | h
  · exact .inl ⟨ob, s _ h⟩
  · exact .inr h
section
variable {P : Program} {w : World} {K : PySem.W.Frag} {mg : Str → Option Value} {base : Heap} {a : Ad}
def toldFrom (fs : List Nat) (cs : List (List (List Int))) : List Int := PyFlat.told (PyFlat.played DiagNeutral.step fs cs)
/-- what the rest of the numbers is, by the call that is taken -/
def RestIs (c0 : Nat) (args tail : List Nat) (call : Diag.Call) (rest : List Nat) : Prop :=
  (c0 ≠ 13 ∧ call = mkC c0 args ∧ rest = tail) ∨ (c0 = 13 ∧ ∃ x row r, args = [x] ∧ tail = row.length :: (row ++ r) ∧ call = .diagram x row ∧ rest = r)
def spTC2 (a : Ad) (K : PySem.W.Frag) : Sp := fun vs H Q _ => ∃ (rd l : Addr) (ns : List Nat) (k c0 : Nat) (args tail : List Nat) (call : Diag.Call) (rest : List Nat), vs = [.ref rd] ∧ ReaderAt a K H rd l ns k ∧ k < ns.length ∧ ns.drop k = c0 :: (args ++ tail) ∧ c0 < 16 ∧ args.length = plN c0 ∧ RestIs c0 args tail call rest ∧
  ∀ (H' : Hp) (t g : Addr) (k2 : Nat), ReaderAt a K H' rd l ns k2 → But H H' rd → H' t = some (.tup [nV c0, .ref g]) → GivenIs H' g c0 call → k < k2 → k2 ≤ ns.length → ns.drop k2 = rest → Q (.ref t) H'
theorem ok_tc2 (T : Txt K mg a) : FnOk P w K mg base CX0 2 a.f_CallReader_taken_call a.d_CallReader_taken_call ["self"] (spTC2 a K) := by
  refine (ok_tc T).imp fun vs H Q E h => ?_
  obtain ⟨rd, l, ns, k, c0, args, tail, call, rest, rfl, R, hk, ed, hc, ha, hr, q⟩ := h
  have e0 : ns.drop k = [c0] ++ (args ++ tail) := ed
  have l0 : k + 1 ≤ ns.length := drop_len (Nat.le_of_lt hk) e0
  have e1 : ns.drop (k + 1) = args ++ tail := drop_more e0
  have l1 := drop_len l0 e1
  have e2 : ns.drop (k + 1 + args.length) = tail := drop_more e1
  refine ⟨rd, l, ns, k, c0, args, tail, rfl, R, hk, ed, hc, ha, fun n13 H' t g G => ?_, fun e13 => ?_⟩
  · rcases hr with ⟨_, rfl, rfl⟩ | ⟨e, _⟩
    · exact q H' t g _ G.1 G.2.1 G.2.2.1 (.inl ⟨n13, args, G.2.2.2.2.1, ha, rfl⟩) (by omega) l1 e2
    · exact absurd e n13
  · rcases hr with ⟨n, _⟩ | ⟨_, x, row, r, rfl, rfl, rfl, rfl⟩
    · exact absurd e13 n
    · have e2' : ns.drop (k + 1 + [x].length) = [row.length] ++ (row ++ rest) := e2
      have l2 : k + 1 + [x].length + 1 ≤ ns.length := drop_len l1 e2'
      have e3 : ns.drop (k + 1 + [x].length + 1) = row ++ rest := drop_more e2'
      have l3 := drop_len l2 e3
      refine ⟨row, rest, rfl, fun H' t g p G hp => q H' t g _ G.1 G.2.1 G.2.2.1 (.inr ⟨e13, x, p, row, G.2.2.2.2.1, hp, rfl⟩) (by omega) l3 (drop_more e3)⟩
/-- how things stand before a call -/
structure DkAt (a : Ad) (K : PySem.W.Frag) (H : Hp) (ns : List Nat) (l st rd fd dx cs fl dxc y n : Addr) (k : Nat) (fs : List Nat) (found : List Int) : Prop where
  ps : H st = some (.ins a.c_State dx (stF cs fl))
  pc : H cs = some (.ins a.c_Cases dxc (csF y n))
  py : H y = some (.lst (nVs yesL))
  pn : H n = some (.lst (nVs noL))
  pf : H fl = some (.lst (nVs fs))
  pz : fs.length = 16
  pw : Wf fs
  pl : SqF K H l (nVs ns)
  pr : ∃ drd, H rd = some (.ins a.c_CallReader drd (rdF l k))
  pk : k ≤ ns.length
  po : H fd = some (.lst (found.map V.int))
  pt : Tabs (TB0 a) H
  ny : fd ≠ y
  nn : fd ≠ n
  nf : fd ≠ fl
theorem DkAt.state {H : Hp} {ns : List Nat} {l st rd fd dx cs fl dxc y n : Addr} {k : Nat} {fs : List Nat} {found : List Int} (D : DkAt a K H ns l st rd fd dx cs fl dxc y n k fs found) : StateAt a H st fs :=
  ⟨D.pz, dx, cs, fl, D.ps, ⟨dxc, y, n, D.pc, D.py, D.pn⟩, D.pf⟩
theorem DkAt.reader {H : Hp} {ns : List Nat} {l st rd fd dx cs fl dxc y n : Addr} {k : Nat} {fs : List Nat} {found : List Int} (D : DkAt a K H ns l st rd fd dx cs fl dxc y n k fs found) : ReaderAt a K H rd l ns k := by
  obtain ⟨drd, e⟩ := D.pr
  exact ⟨D.pl.sq, drd, e⟩
theorem stF_inj {cs fl cs' fl' : Addr} (h : stF cs fl = stF cs' fl') : fl = fl' := by
  have q : (stF cs fl).lookup ("functions" : Str) = (stF cs' fl').lookup ("functions" : Str) := by rw [h]
  rw [stF_fl, stF_fl] at q
  injection q with q
  injection q
theorem DkAt.taken {H H3 : Hp} {ns : List Nat} {l st rd fd dx cs fl dxc y n : Addr} {k k2 : Nat} {fs : List Nat} {found : List Int} (D : DkAt a K H ns l st rd fd dx cs fl dxc y n k fs found) (B : But H H3 rd) (R : ReaderAt a K H3 rd l ns k2) (hk : k2 ≤ ns.length) :
    DkAt a K H3 ns l st rd fd dx cs fl dxc y n k2 fs found := by
  obtain ⟨drd, e⟩ := D.pr
  have hn : ∀ {b : Addr} {o : HO}, H b = some o → (∀ d f, o ≠ .ins a.c_CallReader d f) → H3 b = some o := fun {b o} q z => B _ _ q (ne_of q e (z _ _))
  have hc : ∀ {b : Addr} {o : HO}, H b = some o → (o ≠ .ins a.c_CallReader drd (rdF l k)) → H3 b = some o := fun {b o} q z => B _ _ q (ne_of q e z)
  refine ⟨hc D.ps fun z => ?_, hc D.pc fun z => ?_, hn D.py (fun _ _ z => by cases z), hn D.pn (fun _ _ z => by cases z), hn D.pf (fun _ _ z => by cases z), D.pz, D.pw, D.pl.ext fun o q => hn q (fun _ _ z => by cases z), R.2, hk, hn D.po (fun _ _ z => by cases z), fun p hp => ?_, D.ny, D.nn, D.nf⟩
  · have q : stF cs fl = rdF l k := by injection z with z1 z2 z3
    have q2 := congrArg (fun f : List (Str × V) => f.map (·.1)) q
    have q3 : (["cases", "functions"] : List Str) = (["numbers", "at"] : List Str) := q2
    exact absurd q3 (by decide +kernel)
  · have q : csF y n = rdF l k := by injection z with z1 z2 z3
    have q2 := congrArg List.length q
    have q3 : (3 : Nat) = 2 := q2
    cases q3
  · obtain ⟨ps, h1, h2, h3⟩ := D.pt p hp
    refine ⟨ps, hn h1 (fun _ _ z => by cases z), h2, fun pos cv hc => ?_⟩
    obtain ⟨c, e1, e2⟩ := h3 pos cv hc
    exact ⟨c, e1, hn e2 (fun _ _ z => by unfold CodeO at z; cases z)⟩
theorem DkAt.next {H G : Hp} {ns : List Nat} {l st rd fd dx cs fl dxc y n : Addr} {k : Nat} {fs fs' : List Nat} {found : List Int} {ys : List Int} (D : DkAt a K H ns l st rd fd dx cs fl dxc y n k fs found)
    (kt : KeptT a H G st) (SG : StateAt a G st fs') (W : Wf fs') (TG : Tabs (TB0 a) G) : DkAt a K (upd G fd (.lst (ys.map V.int))) ns l st rd fd dx cs fl dxc y n k fs' ys := by
  obtain ⟨drd, e⟩ := D.pr
  have kt := kt dx cs fl D.ps
  have nt : ∀ {o : HO} {c d : Addr} {f : List (Str × V)}, o = .ins c d f → ∀ ps, o ≠ .tbl ps := fun h ps z => by
    rw [h] at z
    cases z
  have gf : G fd = some (.lst (found.map V.int)) := kt _ _ D.po D.nf (fun _ z => by cases z)
  have gs : G st = some (.ins a.c_State dx (stF cs fl)) := kt _ _ D.ps (ne_of D.ps D.pf (by simp)) (fun _ z => by cases z)
  have gc : G cs = some (.ins a.c_Cases dxc (csF y n)) := kt _ _ D.pc (ne_of D.pc D.pf (by simp)) (fun _ z => by cases z)
  have ly : ∀ {b : Addr} {u : List Nat}, H b = some (.lst (nVs u)) → u.length = 10 → b ≠ fl := fun {b u} q h => ne_of q D.pf fun z => by
    injection z with z
    have q2 := congrArg List.length z
    rw [nVs_len, nVs_len, D.pz, h] at q2
    cases q2
  have gy : G y = some (.lst (nVs yesL)) := kt _ _ D.py (ly D.py (by simp [yesL])) (fun _ z => by cases z)
  have gn : G n = some (.lst (nVs noL)) := kt _ _ D.pn (ly D.pn (by simp [noL])) (fun _ z => by cases z)
  have gr : G rd = some (.ins a.c_CallReader drd (rdF l k)) := kt _ _ e (ne_of e D.pf (by simp)) (fun _ z => by cases z)
  obtain ⟨hz, dx', cs', fl', e1, _, e3⟩ := SG
  rw [gs] at e1
  have ef : fl = fl' := stF_inj (by injection e1 with e1; injection e1)
  subst ef
  refine ⟨?_, ?_, ?_, ?_, ?_, hz, W, D.pl.ext fun o q => ?_, ⟨drd, ?_⟩, D.pk, upd_same, tabs_lst TG gf, D.ny, D.nn, D.nf⟩
  · rw [upd_ne (ne_of gs gf (by simp))]
    exact gs
  · rw [upd_ne (ne_of gc gf (by simp))]
    exact gc
  · rw [upd_ne (Ne.symm D.ny)]
    exact gy
  · rw [upd_ne (Ne.symm D.nn)]
    exact gn
  · rw [upd_ne (Ne.symm D.nf)]
    exact e3
  · have g := kt _ _ q (ne_of q D.pf (by simp)) (fun _ z => by cases z)
    rw [upd_ne (ne_of g gf (by simp))]
    exact g
  · rw [upd_ne (ne_of gr gf (by simp))]
    exact gr
theorem upd_upd (H : Hp) (p : Addr) (o u : HO) : upd (upd H p o) p u = upd H p u := by
  funext b
  by_cases q : b = p
  · rw [q, upd_same, upd_same]
  · rw [upd_ne q, upd_ne q, upd_ne q]
theorem shV_len (x : Diag.Answer) : (shV x).length = (DiagNeutral.shown x).length := List.length_map _
def muD (ns : List Nat) (rd : Addr) (H : Hp) : Nat := match H rd with | some (.ins _ _ f) => (match f.lookup ("at" : Str) with | some (.int i) => ns.length - i.toNat | _ => 0) | _ => 0
theorem muD_eq {H : Hp} {ns : List Nat} {rd l c d : Addr} {k : Nat} (h : H rd = some (.ins c d (rdF l k))) : muD ns rd H = ns.length - k := by
  unfold muD
  rw [h]
  simp only [rdF_k, Int.toNat_natCast]
def spDesk (a : Ad) (K : PySem.W.Frag) : Sp := fun vs H Q _ => ∃ (l : Addr) (ns : List Nat) (fuel : Nat) (cs : List (List (List Int))), vs = [.ref l] ∧ Tabs (TB0 a) H ∧ SqF K H l (nVs ns) ∧ PyFlat.calls PyWrdiag.shape fuel (asI ns) = some cs ∧ (toldFrom Diag.start cs).length ≤ 10000000 ∧
  ∀ H' p, H' p = some (.lst ((toldFrom Diag.start cs).map V.int)) → Q (.ref p) H'
theorem scDk : FnScope ["calls", "state", "reader", "found", "number", "given", "numbers", "refusal"] ["calls"] (defScope s_answers) := ⟨rfl, rfl, rfl, by decide +kernel, rfl, by decide +kernel, by decide +kernel⟩
theorem ok_desk (T : Txt K mg a) (TB : TabB base mg a.k_best a.p_best) : FnOk P w K mg base CX0 19 a.f_answers a.d_answers ["calls"] (spDesk a K) := by
  refine T.answers.F.ok scDk (fun vs H Q E h => ?_) (fun cdv A outer s H vs Q E hr h => ⟨_, pss_cons (ps_set (i := 1) scDk.nd rfl (.inl rfl) (pe_make0 T.mk_State (ok_stI T) (hr.mono (by decide)) rfl T.g_State T.State_init_b .nil pass0))
    (pss_cons (ps_set (i := 2) scDk.nd rfl (.inl rfl) (pe_make T.mk_CallReader (ok_rdI T) (hr.mono (by decide)) rfl T.g_CallReader T.CallReader_init_b .nil pass0 (pa_cons (pv 0) pa_nil)))
    (pss_cons (ps_set (i := 3) scDk.nd rfl (.inl rfl) (pe_lst pa_nil))
    (pss_cons (ps_while PassesOwn.never (pt_val (pe_meth0 (pv 2) T.cl_CallReader T.CallReader_has_more.M (ok_more T) (hr.mono (by decide)) T.CallReader_has_more.b .nil pass0))
      (pss_cons (ps_asg (pe_meth0 (pv 2) T.cl_CallReader T.CallReader_taken_call.M (ok_tc2 T) (hr.mono (by decide)) T.CallReader_taken_call.b .nil pass0) (pg_tup rfl (pgs_cons (pg_name (i := 4) scDk.nd rfl (.inl rfl)) (pgs_cons (pg_name (i := 5) scDk.nd rfl (.inl rfl)) pgs_nil))))
      (pss_cons (ps_try_as (i := 7) (tb := fun W => tAsg (tCallS (spAn a K) (WE W) (tCons (tVar 1) (tCons (tVar 4) (tCons (tVar 5) tNil)))) (gName 6)) (ts := fun x cls d => tAsg (tLst (tCons (tXGet K x cls d "number" (tVar 7)) tNil)) (gName 6)) (Wout := fun _ _ _ _ => False) rfl rfl scDk.nd rfl rfl ⟨rfl, by decide, Or.inl T.x_Refusal.g⟩ LamX.takes0
        (fun W pn xe tk _ => pss_one (ps_set (i := 6) scDk.nd rfl (Or.inl rfl) (by exact (pe_callS (ok_an T TB) hr rfl T.answer_of.g T.answer_of.F.kp T.answer_of.b (fun σ => passAt tk σ) (by exact (pa_cons (pv 1) (pa_cons (pv 4) (pa_cons (pv 5) pa_nil))))))))
        (fun x oe cls d pn hz hf => pss_one (ps_set (i := 6) scDk.nd rfl (Or.inl rfl) (by exact (pe_lst (pa_cons (pe_xget hz hf (pv 7)) pa_nil))))))
      (pss_cons (ps_expr (pe_bm PySem.F.plainAttrs_list PySem.F.slot_list_append PySem.F.type_list_append mt_append (pv 3) (pa_cons (pe_callB call_len_seq (by rfl) T.b_len PySem.boot_len (pa_cons (pv 6) pa_nil)) pa_nil)))
      (pss_one (ps_expr (pe_bm PySem.F.plainAttrs_list PySem.F.slot_list_extend PySem.F.type_list_extend mt_extend (pv 3) (pa_cons (pv 6) pa_nil))))))))
    (pss_one (ps_ret (pv 3)))))), ?_⟩)
  · obtain ⟨l, ns, fuel, cs, rfl, _⟩ := h
    rfl
  · obtain ⟨l, ns, fuel, cs, rfl, TT, F, hc, hz, q⟩ := h
    intro st dst nst nd ne
    refine ⟨st, dst, rfl, upd_same, fun H1 S1 B1 => ⟨rfl, ?_⟩⟩
    have A1 : Same H H1 := fun b o e => B1 b o (by rw [upd_ne (ne_of_none e nst), upd_ne (ne_of_none e nd)]; exact e) (ne_of_none e nst)
    obtain ⟨hz16, dx, cs2, fl, s1, ⟨dxc, y, n, c1, c2, c3⟩, f1⟩ := S1
    refine ⟨_, rfl, fun rd drd n1 n2 n3 => ?_⟩
    have A2 : Same H1 (upd (upd H1 drd (.own rd)) rd (.ins a.c_CallReader drd [])) := Same.new (Same.upd n2) (by rw [upd_ne (Ne.symm n3)]; exact n1)
    have F2 : SqF K (upd (upd H1 drd (.own rd)) rd (.ins a.c_CallReader drd [])) l (nVs ns) := F.ext fun o e => A2 _ _ (A1 _ _ e)
    refine ⟨rd, drd, l, ns, rfl, upd_same, F2.sq, fun H2 R2 B2 => ⟨rfl, ?_⟩⟩
    have A3 : Same H1 H2 := fun b o e => B2 _ _ (A2 _ _ e) (ne_of_none e n1)
    refine ⟨(by show 0 ≤ sizeLine; decide), fun fd hfd => ?_⟩
    have A4 : Same H1 (upd H2 fd (.lst [])) := Same.new A3 hfd
    have nfd : ∀ {b : Addr} {o : HO}, H1 b = some o → fd ≠ b := fun e => (ne_of_none (A3 _ _ e) hfd).symm
    obtain ⟨_, drd2, er2⟩ := R2
    have D0 : DkAt a K (upd H2 fd (.lst [])) ns l st rd fd dx cs2 fl dxc y n 0 Diag.start [] :=
      ⟨A4 _ _ s1, A4 _ _ c1, A4 _ _ c2, A4 _ _ c3, A4 _ _ f1, hz16, fun f hf => by rw [List.eq_of_mem_replicate hf]; exact Nat.two_pow_pos _, F.ext fun o e => A4 _ _ (A1 _ _ e), ⟨drd2, Same.upd hfd _ _ er2⟩, Nat.zero_le _, upd_same, (TT.ext A1).ext A4, nfd c2, nfd c3, nfd f1⟩
    refine while_by (fun σ H' => ∃ (k : Nat) (fs : List Nat) (found : List Int) (fuel : Nat) (cl : List (List (List Int))), DkAt a K H' ns l st rd fd dx cs2 fl dxc y n k fs found ∧ PyFlat.calls PyWrdiag.shape fuel (asI (ns.drop k)) = some cl ∧ toldFrom Diag.start cs = found ++ toldFrom fs cl ∧
        ∃ v4 v5 v6 : Option V, σ = [some (.ref l), some (.ref st), some (.ref rd), some (.ref fd), v4, v5, v6, none])
      (fun _ H' => muD ns rd H') ⟨0, Diag.start, [], fuel, cs, D0, hc, rfl, none, none, none, rfl⟩ ?_ ?_
    · rintro σ H' ⟨k, fs, found, fu, cl, D, hcl, tot, v4, v5, v6, rfl⟩
      obtain ⟨drd3, er⟩ := D.pr
      refine ⟨_, rfl, rd, drd3, _, rfl, er, rdF_m l k (by decide +kernel), rd, l, ns, k, rfl, D.reader, _, rfl, ?_⟩
      by_cases hk : k < ns.length
      · rw [decide_eq_true hk]
        -- the call that is next
        obtain ⟨c0, r, ed⟩ : ∃ c0 r, ns.drop k = c0 :: r := by
          cases e : ns.drop k with
          | nil =>
            have q2 := congrArg List.length e
            rw [List.length_drop, List.length_nil] at q2
            omega
          | cons c0 r => exact ⟨c0, r, rfl⟩
        rw [ed] at hcl
        obtain ⟨fu2, cc, tt, cl2, e1, e2, rfl⟩ : ∃ fu2 cc tt cl2, PyFlat.call PyWrdiag.shape (asI (c0 :: r)) = some (cc, tt) ∧ PyFlat.calls PyWrdiag.shape fu2 tt = some cl2 ∧ cl = cc :: cl2 := by
          cases fu with
          | zero => cases hcl
          | succ fu =>
            have h2 : (match PyFlat.call PyWrdiag.shape (asI (c0 :: r)) with
              | none => none
              | some (c, t) => match PyFlat.calls PyWrdiag.shape fu t with
                | none => none
                | some cs => some (c :: cs)) = some cl := hcl
            cases e1 : PyFlat.call PyWrdiag.shape (asI (c0 :: r)) with
            | none =>
              rw [e1] at h2
              cases h2
            | some p =>
              obtain ⟨cc, tt⟩ := p
              rw [e1] at h2
              cases e2 : PyFlat.calls PyWrdiag.shape fu tt with
              | none =>
                simp only [e2] at h2
                cases h2
              | some cl2 =>
                simp only [e2] at h2
                exact ⟨fu, cc, tt, cl2, rfl, e2, (Option.some.inj h2).symm⟩
        obtain ⟨hc16, args, tail, er1, la, call, ecall, hcase⟩ := parse_step e1
        obtain ⟨rest, hrest, ett⟩ : ∃ rest, RestIs c0 args tail call rest ∧ tt = asI rest := by
          rcases hcase with ⟨q1, q2, q3⟩ | ⟨q1, x, row, rr, q2, q3, q4, q5⟩
          · exact ⟨tail, .inl ⟨q1, q2, rfl⟩, q3⟩
          · exact ⟨rr, .inr ⟨q1, x, row, rr, q2, q3, q4, rfl⟩, q5⟩
        subst er1
        have eplay : toldFrom fs (cc :: cl2) = (((DiagNeutral.shown (Diag.step fs call).2).length : Nat) : Int) :: (DiagNeutral.shown (Diag.step fs call).2 ++ toldFrom (Diag.step fs call).1 cl2) := by
          have es : DiagNeutral.step fs cc = ((Diag.step fs call).1, DiagNeutral.shown (Diag.step fs call).2) := by
            unfold DiagNeutral.step
            rw [ecall]
          show PyFlat.told ((DiagNeutral.step fs cc).2 :: PyFlat.played DiagNeutral.step (DiagNeutral.step fs cc).1 cl2) = _
          rw [es]
          rfl
        rw [eplay] at tot
        have bnd := congrArg List.length tot
        rw [List.length_append, List.length_cons, List.length_append] at bnd
        refine iteT ⟨_, rfl, rd, drd3, _, rfl, er, rdF_m l k (by decide +kernel), rd, l, ns, k, c0, args, tail, call, rest, rfl, D.reader, hk, ed, hc16, la, hrest, fun H3 t g k2 R3 B3 et GI hk2 hk3 ed2 => ?_⟩
        have D3 := D.taken B3 R3 hk3
        refine ⟨t, _, rfl, .inl (.inl et), rfl, _, _, rfl, _, _, rfl, rfl, ?_⟩
        refine ⟨_, rfl, _, rfl, _, rfl, ?_⟩
        refine ⟨st, g, c0, fs, call, rfl, hc16, D3.pt, D3.state, D3.pw, GI, ⟨fun G p SG kt TG fr ep => ?_, fun i ei C d G xc ex sg edd => ?_⟩⟩
        · have pne : p ≠ fd := fun z => by
            obtain ⟨ps, q2⟩ := fr _ (z ▸ D3.po)
            cases q2
          have gf : G fd = some (.lst (found.map V.int)) := kt dx cs2 fl D3.ps _ _ D3.po D3.nf (fun _ z => by cases z)
          refine ⟨_, rfl, .inl ⟨rfl, _, SqL.of gf⟩, _, rfl, p, _, rfl, .inl (SqL.of ep), fd, _, _, rfl, rfl, gf, ?_, ?_⟩
          · rw [List.length_map, sizeLine_eq]
            omega
          refine ⟨_, rfl, .inl ⟨rfl, _, SqL.of upd_same⟩, _, rfl, fd, p, _, _, rfl, rfl, upd_same, (upd_ne pne).trans ep, ?_, ?_⟩
          · rw [List.length_append, List.length_map, List.length_singleton, shV_len, sizeLine_eq]
            omega
          have eh : upd (upd G fd (.lst (found.map V.int ++ [V.int ((shV (Diag.step fs call).2).length : Nat)]))) fd (.lst ((found.map V.int ++ [V.int ((shV (Diag.step fs call).2).length : Nat)]) ++ shV (Diag.step fs call).2)) = upd G fd (.lst ((found ++ (((DiagNeutral.shown (Diag.step fs call).2).length : Nat) : Int) :: DiagNeutral.shown (Diag.step fs call).2).map V.int)) := by
            rw [upd_upd, shV_len]
            congr 2
            rw [List.map_append, List.append_assoc]
            rfl
          have D4 := D3.next kt SG (step_wf D3.pw call) TG (ys := found ++ (((DiagNeutral.shown (Diag.step fs call).2).length : Nat) : Int) :: DiagNeutral.shown (Diag.step fs call).2)
          have tot2 : toldFrom Diag.start cs = (found ++ (((DiagNeutral.shown (Diag.step fs call).2).length : Nat) : Int) :: DiagNeutral.shown (Diag.step fs call).2) ++ toldFrom (Diag.step fs call).1 cl2 := by
            rw [tot, List.append_assoc]
            rfl
          have e2' : PyFlat.calls PyWrdiag.shape fu2 (asI (ns.drop k2)) = some cl2 := by rw [ed2, ← ett]; exact e2
          rw [← eh] at D4
          obtain ⟨d5, e5⟩ := D4.pr
          refine ⟨⟨k2, _, _, fu2, cl2, D4, e2', tot2, _, _, _, rfl⟩, ?_⟩
          show muD ns rd _ < muD ns rd H'
          rw [muD_eq e5, muD_eq er]
          omega
        · refine ⟨true, ex, fun _ x hx => ?_, fun z => by cases z⟩
          refine ⟨_, rfl, rfl, C, rfl, xc, xc.no, d, _, .int i, rfl, edd, lk_here, (by show 1 ≤ sizeLine; decide), fun p hp => ?_⟩
          have sg2 : Same H3 (upd G p (.lst [V.int i])) := Same.new sg hp
          have kt : KeptT a H3 (upd G p (.lst [V.int i])) st := fun _ _ _ _ b o e _ _ => sg2 _ _ e
          have SG : StateAt a (upd G p (.lst [V.int i])) st (Diag.step fs call).1 := by
            rw [ei]
            exact D3.state.same sg2
          have TG : Tabs (TB0 a) (upd G p (.lst [V.int i])) := D3.pt.ext sg2
          have ep : upd G p (.lst [V.int i]) p = some (.lst (shV (Diag.step fs call).2)) := by
            rw [ei, upd_same]
            rfl
          have pne : p ≠ fd := (ne_of_none (sg _ _ D3.po) hp).symm
          have gf : (upd G p (.lst [V.int i])) fd = some (.lst (found.map V.int)) := kt dx cs2 fl D3.ps _ _ D3.po D3.nf (fun _ z => by cases z)
          refine ⟨_, rfl, .inl ⟨rfl, _, SqL.of gf⟩, _, rfl, p, _, rfl, .inl (SqL.of ep), fd, _, _, rfl, rfl, gf, ?_, ?_⟩
          · rw [List.length_map, sizeLine_eq]
            omega
          refine ⟨_, rfl, .inl ⟨rfl, _, SqL.of upd_same⟩, _, rfl, fd, p, _, _, rfl, rfl, upd_same, (upd_ne pne).trans ep, ?_, ?_⟩
          · rw [List.length_append, List.length_map, List.length_singleton, shV_len, sizeLine_eq]
            omega
          have eh : upd (upd (upd G p (.lst [V.int i])) fd (.lst (found.map V.int ++ [V.int ((shV (Diag.step fs call).2).length : Nat)]))) fd (.lst ((found.map V.int ++ [V.int ((shV (Diag.step fs call).2).length : Nat)]) ++ shV (Diag.step fs call).2)) = upd (upd G p (.lst [V.int i])) fd (.lst ((found ++ (((DiagNeutral.shown (Diag.step fs call).2).length : Nat) : Int) :: DiagNeutral.shown (Diag.step fs call).2).map V.int)) := by
            rw [upd_upd, shV_len]
            congr 2
            rw [List.map_append, List.append_assoc]
            rfl
          have D4 := D3.next kt SG (step_wf D3.pw call) TG (ys := found ++ (((DiagNeutral.shown (Diag.step fs call).2).length : Nat) : Int) :: DiagNeutral.shown (Diag.step fs call).2)
          have tot2 : toldFrom Diag.start cs = (found ++ (((DiagNeutral.shown (Diag.step fs call).2).length : Nat) : Int) :: DiagNeutral.shown (Diag.step fs call).2) ++ toldFrom (Diag.step fs call).1 cl2 := by
            rw [tot, List.append_assoc]
            rfl
          have e2' : PyFlat.calls PyWrdiag.shape fu2 (asI (ns.drop k2)) = some cl2 := by rw [ed2, ← ett]; exact e2
          rw [← eh] at D4
          obtain ⟨d5, e5⟩ := D4.pr
          refine ⟨⟨k2, _, _, fu2, cl2, D4, e2', tot2, _, _, _, rfl⟩, ?_⟩
          show muD ns rd _ < muD ns rd H'
          rw [muD_eq e5, muD_eq er]
          omega
      · rw [decide_eq_false hk]
        have e0 : k = ns.length := Nat.le_antisymm D.pk (Nat.le_of_not_lt hk)
        subst e0
        rw [List.drop_length] at hcl
        have ecl : cl = [] := by
          cases fu with
          | zero => exact (Option.some.inj hcl).symm
          | succ fu => exact (Option.some.inj hcl).symm
        subst ecl
        have et : toldFrom Diag.start cs = found := by
          rw [tot]
          exact List.append_nil _
        refine iteF ⟨_, rfl, ?_⟩
        refine q H' fd ?_
        rw [et]
        exact D.po
    · intro σ H' Q1 Q2 hQ h
      obtain ⟨x1, a1, d1, dx1, f1, b1, b2, b3, rd2, l2, ns2, k2, b4, b5, bb, b6, q0⟩ := h
      exact ⟨x1, a1, d1, dx1, f1, b1, b2, b3, rd2, l2, ns2, k2, b4, b5, bb, b6, hQ _ _ q0⟩
end
end Ten
namespace Ten
open PySem PySem.Spec PyProof.Rows L2 LamX
open PySem.W (WData Codec OpenSpec Well WellAll ReadsW ReadsAllW)
/-! The end: the row, with one table of code objects. -/
/-- what the arguments and the table make of a heap -/
def withT (H : Hp) (P : Addr) : Hp := fun b => if b = P then some (.tbl #[]) else H b
theorem withT_at (H : Hp) (P : Addr) : withT H P P = some (.tbl #[]) := if_pos rfl
theorem withT_ne {H : Hp} {P b : Addr} (h : b ≠ P) : withT H P b = H b := if_neg h
/-- nothing is tracked but the table and what was handed in -/
def OnlyT (H : Hp) (P : Addr) : Prop := H P = some (.tbl #[]) ∧ ∀ b, b ≠ P → H b = none ∨ ∃ o u, H b = some (.frz o u)
theorem sqL_withT {K : PySem.W.Frag} {H : Hp} {P l : Addr} {xs : List V} (hP : H P = none) (h : SqL K H l xs) : SqL K (withT H P) l xs := sqL_by h fun o e _ => by
  rw [withT_ne (ne_of_none e hP)]
  exact e
theorem sqT_withT {K : PySem.W.Frag} {H : Hp} {P l : Addr} {xs : List V} (hP : H P = none) (h : SqT K H l xs) : SqT K (withT H P) l xs := by
  rcases h with (h | ⟨ob, h⟩) | h
  · exact .inl (.inl (by rw [withT_ne (ne_of_none h hP)]; exact h))
  · exact .inl (.inr ⟨ob, by rw [withT_ne (ne_of_none h hP)]; exact h⟩)
  · exact .inr h
mutual
theorem dw_withT {K : PySem.W.Frag} {H : Hp} {P : Addr} (hP : H P = none) : ∀ (v : V) (d : WData), Dw K H v d → Dw K (withT H P) v d
  | _, _, .non => .non
  | _, _, .bl b => .bl b
  | _, _, .int i => .int i
  | _, _, .str s => .str s
  | _, _, .byt b => .byt b
  | _, _, .lst h r => .lst (sqL_withT hP h) (dws_withT hP _ _ r)
  | _, _, .tup h r => .tup (sqT_withT hP h) (dws_withT hP _ _ r)
theorem dws_withT {K : PySem.W.Frag} {H : Hp} {P : Addr} (hP : H P = none) : ∀ (vs : List V) (ds : List WData), DwAll K H vs ds → DwAll K (withT H P) vs ds
  | _, _, .nil => .nil
  | _, _, .cons a b => .cons (dw_withT hP _ _ a) (dws_withT hP _ _ b)
end
theorem end_call {Pr : Program} {w : World} {K : PySem.W.Frag} {mg mb : Str → Option Value} {k : Nat} {fa c P : Addr} {fd : FuncData} {ps : List Str} {sp : Sp} {s₁ : Shared} {vals : List Value} {ds : List WData} {R : PySem.W.WRecords} {cl : Str → Option Addr} {d0 : WData}
    (KX : K.In s₁.heap) (hns : s₁.heap.Ns mainGlobals mg) (hb : s₁.heap.Ns builtinsNs mb) (hbb : ∀ x : Str, x ≠ "__name__" → mb x = bootBuiltins x) (hlim : s₁.heap.NoLimit) (hg : s₁.gens = #[])
    (hT : s₁.heap.get? P = some { cls := .none, data := .fields #[] }) (nT : K.lookup P = none) (hC : PySem.W.CodeHd s₁.heap c P)
    (hbm : ∃ (bm : Addr) (ob : Obj), mg "__builtins__" = some (.ref bm) ∧ bm ≠ builtinsNs ∧ s₁.heap.get? bm = some ob ∧ ob.cls = .type "module" ∧ ob.dict = some builtinsNs ∧ ob.data = .plain)
    (hwl : WellAll w.params s₁.heap vals ds) (hpl : plWs ds = true) (hwt : ∀ d ∈ ds, d.weight ≤ 1048576) (hr : Room k callerA)
    (F : ∀ base : Heap, K.In base → base.Ns mainGlobals mg → TabB base mg c P → FnOk Pr w K mg base CX0 k fa fd ps sp) (hbind : L2.Binds K fd ps []) (hlen : ds.length = ps.length)
    (hsp : ∀ (H : Hp) (xs : List V), OnlyT H P → DwAll K H xs ds → sp xs H (fun v H' => Dw K H' v d0) fun _ _ _ => False) :
    codeAny (model Pr w) callerA (.call (.ref fa) ⟨vals, []⟩) (fun r s' => ∃ u as, r = .ok (.ret u) ∧ ReadsW R cl s'.heap u d0 as ∧ OldK s₁.heap s'.heap ∧ s'.os = s₁.os ∧ AllBare s'.gens) s₁ := by
  obtain ⟨A, ho, ar⟩ := area_all ds vals hwl hpl hwt
  have nP : argH K s₁.heap A P = none := by
    cases q : argH K s₁.heap A P with
    | none => rfl
    | some u =>
      obtain ⟨_, us, _, _, ⟨e2, _⟩ | ⟨e2, _⟩⟩ := argH_is ar q
      · rw [hT] at e2
        cases e2
      · rw [hT] at e2
        cases e2
  have hO : OnlyT (withT (argH K s₁.heap A) P) P := ⟨withT_at _ _, fun b nb => by rw [withT_ne nb]; exact argH_only ar b⟩
  have hok0 : HOk Pr w (argH K s₁.heap A) s₁.heap := argH_ok ar
  have hS := dws_withT nP _ _ (dw_all KX ar ds vals hwl hpl ho)
  have hV := vals_toV ho
  -- objects of these kinds are not tracked
  have no : ∀ {b : Addr} {o : Obj}, s₁.heap.get? b = some o → (∀ vs n, o.data ≠ .seq vs n) → o.data ≠ .fields #[] → withT (argH K s₁.heap A) P b = none := fun {b o} e h1 h2 => by
    have nb : b ≠ P := fun z => by
      rw [z, hT] at e
      cases e
      exact h2 rfl
    rw [withT_ne nb]
    cases q : argH K s₁.heap A b with
    | none => rfl
    | some u =>
      obtain ⟨_, us, _, _, ⟨e2, _⟩ | ⟨e2, _⟩⟩ := argH_is ar q
      · rw [e2] at e
        cases e
        exact (h1 _ _ rfl).elim
      · rw [e2] at e
        cases e
        exact (h1 _ _ rfl).elim
  have nK : ∀ b o, K.lookup b = some o → withT (argH K s₁.heap A) P b = none := fun b o e => by
    have nb : b ≠ P := fun z => by
      rw [z, nT] at e
      cases e
    rw [withT_ne nb]
    cases q : argH K s₁.heap A b with
    | none => rfl
    | some u =>
      rw [(argH_is ar q).1] at e
      cases e
  have hok : HOk Pr w (withT (argH K s₁.heap A) P) s₁.heap := fun b u q => by
    by_cases nb : b = P
    · subst nb
      rw [withT_at] at q
      cases q
      exact hT
    · rw [withT_ne nb] at q
      refine (hok0 b u q).stay (fun _ _ _ e => e) (fun d e => ?_) fun d xs e => ?_
      · rw [withT_ne (ne_of_none e nP)]
        exact e
      · rw [withT_ne (ne_of_none e nP)]
        exact e
  generalize withT (argH K s₁.heap A) P = H at hO hok hS no nK
  have base_of : ∀ {b : Addr} {o : Obj}, s₁.heap.get? b = some o → H b = none → (hidT s₁.heap H).get? b = some o := fun e n => hidT_get e n
  have nsK : ∀ {b : Addr} {m : Str → Option Value}, s₁.heap.Ns b m → (hidT s₁.heap H).Ns b m := fun {b m} ⟨o, es, ep, e, d, r⟩ => ⟨o, es, ep, base_of e (no e (fun vs n z => by rw [d] at z; cases z) (fun z => by rw [d] at z; cases z)), d, r⟩
  have hKb : K.In (hidT s₁.heap H) := fun b o e => base_of (KX b o e) (nK b o e)
  have hM : L2.Mod K mg (hidT s₁.heap H) := ⟨hKb, nsK hns, ⟨mb, nsK hb, hbb⟩, let ⟨mc, h1, h2⟩ := hlim; ⟨mc, nsK h1, h2⟩⟩
  have TB : TabB (hidT s₁.heap H) mg c P := by
    refine ⟨?_, ?_, fun z => ?_⟩
    · obtain ⟨o, us, file, tf, flags, tg, inF, text, tt, e1, r1, r2, r3, r4, r5, r6, r7, r8, hne⟩ := hC
      refine ⟨o, us, file, tf, flags, tg, inF, text, tt, base_of e1 (no e1 (fun vs n z => by rw [r2] at z; cases z) fun z => ?_), r1, r2, r3, r4, r5, r6, r7, r8, hne⟩
      rw [r2] at z
      cases z
      simp at r3
    · obtain ⟨bm, ob, b1, b2, b3, b4, b5, b6⟩ := hbm
      have nG : bm ≠ mainGlobals := fun q => by
        obtain ⟨o, es, ep, e, hd, _⟩ := hns
        rw [q, e] at b3
        cases b3
        rw [hd] at b6
        cases b6
      have nP2 : bm ≠ P := fun q => by
        rw [q, hT] at b3
        cases b3
        cases b6
      exact ⟨bm, ob, b1, b2, nG, nP2, base_of b3 (no b3 (fun vs n z => by rw [b6] at z; cases z) (fun z => by rw [b6] at z; cases z)), b4, b5, b6⟩
    · obtain ⟨o, es, ep, e, hd, _⟩ := hns
      rw [z, hT] at e
      cases e
      cases hd
  have e0 : Env0 Pr w K mg (hidT s₁.heap H) callerA [] s₁ H := ⟨rfl, hM, fun b o e => of_hidT e, Nat.le_of_eq (hidT_size _ _), trivial, fun b hb => absurd (show b ∈ ([] : List Addr) from hb) (by simp), hok, .of_eq hg⟩
  have hl : vals.length = ps.length := by rw [wellAll_len hwl]; exact hlen
  have hb2 := hbind s₁ vals KX (by rw [List.append_nil]; exact hl)
  rw [List.append_nil] at hb2
  refine codeAny_mono ((F _ hKb (nsK hns) TB).run callerA [] s₁ H ⟨vals, []⟩ vals (vals.map toV) _ _ hr e0 hb2 hV (hsp H _ hO hS)) fun r s' x => ?_
  cases r with
  | error e => exact (show False from x).elim
  | ok fl =>
    cases fl with
    | next => exact False.elim x
    | brk => exact False.elim x
    | cont => exact False.elim x
    | ret u =>
      obtain ⟨v, H', os, bare, un, hok', r', q⟩ := x
      have kept : ∀ b o, b ≠ P → s₁.heap.get? b = some o → s'.heap.get? b = some o := fun b o nb e => by
        rcases hO.2 b nb with z | ⟨ob, u3, z⟩
        · exact un.keep b o e z (by intro z; exact absurd (show b ∈ ([] : List Addr) from z) (by simp)) (by simp)
        · have z2 := un.frzs b ob _ z
          obtain ⟨e1, _⟩ := hok b _ z
          obtain ⟨e2, _⟩ := hok' b _ z2
          rw [e] at e1
          cases e1
          exact e2
      obtain ⟨more, z⟩ := un.tbls P #[] hO.1
      have hm : s'.heap.get? P = some { cls := .none, data := .fields (#[] ++ more) } := hok' P _ z
      have KX' : K.In s'.heap := fun b o e => kept b o (fun z => by rw [z, nT] at e; cases e) (KX b o e)
      obtain ⟨as, hrd⟩ := Dw.reads (R := R) (cl := cl) hok' KX' d0 v u q r'
      refine ⟨u, as, rfl, hrd, ⟨fun b o e => ?_, fun b o e => ?_⟩, os, bare⟩
      · by_cases nb : b = P
        · subst nb
          rw [hT] at e
          cases e
          exact .inr (.inl ⟨(hC.tab hT).isCodeTable, rfl, #[], #[] ++ more, rfl, by rw [Array.empty_append]; exact hm⟩)
        · exact .inl (kept b o nb e)
      · by_cases nb : b = P
        · subst nb
          exact ⟨_, hm⟩
        · exact ⟨o, kept b o nb e⟩
def spD (P : Addr) (K : PySem.W.Frag) : Sp := fun vs H Q _ => ∃ (l : Addr) (ns : List Nat) (fuel : Nat) (cs : List (List (List Int))), vs = [.ref l] ∧ Tabs [(P, ("best_next" : Str) ++ ".<locals>." ++ "<lambda>")] H ∧ SqF K H l (nVs ns) ∧ PyFlat.calls PyWrdiag.shape fuel (asI ns) = some cs ∧ (toldFrom Diag.start cs).length ≤ 10000000 ∧
  ∀ H' p, H' p = some (.lst ((toldFrom Diag.start cs).map V.int)) → Q (.ref p) H'
theorem map_whole (l : List (List (List Int))) : l.map PyWrdiag.whole = l := by
  conv => rhs; rw [← List.map_id l]
  exact List.map_congr_left fun c _ => whole_id c
/-- what is handed in has whole numbers that are not below 0 -/
theorem within_ints {l : List Int} {u : Unit} (h : Codec.withinAll PySem.Challenge.rw_tenquestions_s01_answers.args (l, u) = true) : ∀ i ∈ l, 0 ≤ i := by
  have h1 : (Codec.inList 0 16000 (Codec.inInt 0 9223372036854775807) l && true) = true := h
  rw [Bool.and_true] at h1
  unfold Codec.inList at h1
  rw [Bool.and_eq_true, List.all_eq_true] at h1
  intro i hi
  have h2 := h1.2 i hi
  unfold Codec.inInt at h2
  rw [Bool.and_eq_true] at h2
  exact of_decide_eq_true h2.1
theorem asI_back {l : List Int} (h : ∀ i ∈ l, 0 ≤ i) : asI (l.map Int.toNat) = l := by
  unfold asI
  rw [List.map_map]
  conv => rhs; rw [← List.map_id l]
  exact List.map_congr_left fun i hi => Int.toNat_of_nonneg (h i hi)
theorem desk_sp (K : PySem.W.Frag) (H : Hp) (P : Addr) (xs : List V) (a : Codec.denoteAll PySem.Challenge.rw_tenquestions_s01_answers.args) (hO : OnlyT H P) (hw : Codec.withinAll PySem.Challenge.rw_tenquestions_s01_answers.args a = true)
    (ha : Codec.app PySem.Challenge.rw_tenquestions_s01_answers.args PySem.Challenge.rw_tenquestions_s01_answers.asked a = true) (hS : DwAll K H xs (Codec.encAll PySem.Challenge.rw_tenquestions_s01_answers.args a)) :
    spD P K xs H (fun v H' => Dw K H' v (PySem.Challenge.rw_tenquestions_s01_answers.ret.enc (Codec.app PySem.Challenge.rw_tenquestions_s01_answers.args PySem.Challenge.rw_tenquestions_s01_answers.f a))) fun _ _ _ => False := by
  obtain ⟨l, u⟩ := a
  have hw2 := within_ints hw
  have ha2 : PyWrdiag.answers_asked l = true := ha
  have hS2 : DwAll K H xs [.list (l.map WData.int)] := hS
  obtain ⟨raw, e1, e2⟩ : ∃ raw, PyFlat.calls PyWrdiag.shape l.length l = some raw ∧ (PyWrdiag.answers l).length ≤ 10000000 := by
    unfold PyWrdiag.answers_asked at ha2
    cases e : PyFlat.calls PyWrdiag.shape l.length l with
    | none =>
      rw [e] at ha2
      cases ha2
    | some raw =>
      rw [e] at ha2
      simp only [Bool.and_eq_true] at ha2
      exact ⟨raw, rfl, of_decide_eq_true ha2.2⟩
  have e3 : PyWrdiag.answers l = toldFrom Diag.start raw := by
    unfold PyWrdiag.answers PyWrdiag.calls
    rw [e1]
    show PyFlat.told (PyFlat.played DiagNeutral.step DiagNeutral.start (raw.map PyWrdiag.whole)) = _
    rw [map_whole]
    rfl
  have el := asI_back hw2
  cases hS2 with
  | cons h1 h2 =>
    cases h2
    cases h1 with
    | lst hq hd =>
      rename_i ad ys
      have ey : ys = nVs (l.map Int.toNat) := by
        rw [ints_dw l ys hd, nVs_ints]
        show l.map V.int = (asI (l.map Int.toNat)).map V.int
        rw [el]
      refine ⟨ad, l.map Int.toNat, l.length, raw, rfl, ?_, ?_, by rw [el]; exact e1, by rw [← e3]; exact e2, fun H' p hp => ?_⟩
      · intro q hq2
        rw [List.mem_singleton.mp hq2]
        exact TabS.nil hO.1
      · rw [← ey]
        rcases hq with (z | z) | z
        · exfalso
          by_cases nb : ad = P
          · rw [nb, hO.1] at z
            cases z
          · rcases hO.2 ad nb with q | ⟨o, u, q⟩
            · rw [q] at z
              cases z
            · rw [q] at z
              cases z
        · exact .inl z
        · exact .inr z
      · have ed : Dw K H' (.ref p) (.list ((PyWrdiag.answers l).map WData.int)) := by
          rw [e3]
          exact .lst (SqL.of hp) (dw_ints _)
        exact ed
/-- the row's goal, from the defs -/
theorem walk_desk {q : Program} {loose : List Str} {XP : (Str → Option Value) → Heap → Prop} {YP : World → Heap → Prop} {d : DefRec} {K : Params → PySem.W.Frag} (hwell : PySem.Challenge.rw_tenquestions_s01_answers.wellSaid = true) (hdf : d.params.defaults = []) (hr : Room 19 callerA)
    (hY : ∀ (w : World) (h : Heap), YP w h → (K w.params).In h)
    (F : ∀ (w : World) (mg : Str → Option Value) (fa : Addr) (h : Heap), YP w h → (K w.params).In h → h.Ns mainGlobals mg → mg d.name = some (.ref fa) →
      ∃ (fd : FuncData) (c P : Addr) (d2 : DefRec), L2.Binds (K w.params) fd ["calls"] [] ∧ (recsOf q).find? (fun e => e.name == ("best_next" : Str)) = some d2 ∧ PySem.W.tabIn (K w.params) "best_next" = some (c, P) ∧ (K w.params).lookup P = none ∧
        ∀ base : Heap, (K w.params).In base → base.Ns mainGlobals mg → TabB base mg c P → FnOk PySem.Challenge.rw_tenquestions_s01_answers.prog w (K w.params) mg base CX0 19 fa fd ["calls"] (spD P (K w.params))) :
    PySem.W.WalkOS q loose XP YP PySem.Challenge.rw_tenquestions_s01_answers d [] (fun f vs => PySem.call f vs) := by
  intro w s₀ s₁ mg mb G Y fa o pm cd doc dV kV ho hd hcd hD hmg hg args vals as hpre hlay hrd hwl hlo
  obtain ⟨a, e1, e2⟩ := PySem.W.os_pre_some hpre
  obtain ⟨e3, hwi⟩ := Codec.encAll_of_decAll PySem.Challenge.rw_tenquestions_s01_answers.args args a e1
  subst e3
  have KX := hY w _ Y
  obtain ⟨fd, c, P, d2, hb, h2, ht, hn, hF⟩ := F w mg fa _ Y KX G.T.g hmg
  obtain ⟨hC, hT⟩ := PySem.W.tab_of G.T KX h2 ht
  refine PySem.W.enter_call (codeAny_mono (end_call (R := []) (cl := classAt s₀.heap) (d0 := PySem.Challenge.rw_tenquestions_s01_answers.ret.enc (Codec.app PySem.Challenge.rw_tenquestions_s01_answers.args PySem.Challenge.rw_tenquestions_s01_answers.f a)) KX G.T.g G.T.b G.T.builtins G.T.nolimit hg hT hn hC G.T.bmain hwl (pl_encAll _ _) (layable_weight hlay) hr hF hb (by rw [encAll_len]; rfl)
    (fun H xs hO hS => desk_sp (K w.params) H P xs a hO hwi e2 hS)) fun r' s' hq => ?_)
  obtain ⟨u, as', rfl, g1, g2, g3, g4⟩ := hq
  exact ⟨.inl ⟨u, _, as', rfl, fun _ => rfl, g1, (OpenSpec.post_iff hwell hwi _ _).mpr rfl, fun z => Bool.noConfusion (show false = true from z)⟩, g2, g3, g4⟩
end Ten
namespace Ten
theorem use_txt {K : PySem.W.Frag} {mg : PySem.Str → Option PySem.Value} {f : PySem.Addr} {G : Prop} (h : ∃ a : Ad, Txt K mg a ∧ a.f_answers = f) (k : ∀ a : Ad, Txt K mg a → a.f_answers = f → G) : G := h.elim fun a q => k a q.1 q.2
end Ten
open PySem PySem.W PyProof.Rows
theorem PySem.Challenge.cw_tenquestions_s01_answers_holds : PySem.Challenge.rw_tenquestions_s01_answers.Holds := by
  w_on; k_headS; (case hw => exact ⟨[.list []], by decide +kernel, by decide +kernel⟩)
  k_fillS
  refine Ten.walk_desk (by decide +kernel) rfl ⟨rfl, by decide, by decide⟩ (fun w h Y => PySem.W.kIn_of Y) ?F
  case F =>
    intro w mg fa h Y KX G hmg
    refine' Ten.use_txt (Ten.txt_mk KX G ?gCases ?gRefusal ?gOutOfRange ?gNoCase ?gTooManyMatter ?gDiagram ?gCallReader ?gState ?a1 ?l1 ?c1 ?k1 ?a2 ?l2 ?c2 ?k2 ?a3 ?l3 ?c3 ?k3 ?a4 ?l4 ?c4 ?k4 ?a5 ?l5 ?c5 ?k5 ?a6 ?l6 ?c6 ?k6 ?a7 ?l7 ?c7 ?k7 ?a8 ?l8 ?c8 ?k8 ?a9 ?l9 ?c9 ?k9 ?a10 ?l10 ?c10 ?k10 ?a11 ?l11 ?c11 ?k11 ?a12 ?l12 ?c12 ?k12 ?a13 ?l13 ?c13 ?k13 ?a14 ?l14 ?c14 ?k14 ?a15 ?l15 ?c15 ?k15 ?a16 ?l16 ?c16 ?k16 ?a17 ?l17 ?c17 ?k17 ?a18 ?l18 ?c18 ?k18 ?a19 ?l19 ?c19 ?k19 ?a20 ?l20 ?c20 ?k20 ?a21 ?l21 ?c21 ?k21 ?a22 ?l22 ?c22 ?k22 ?a23 ?l23 ?c23 ?k23 ?a24 ?l24 ?c24 ?k24 ?a25 ?l25 ?c25 ?k25 ?a26 ?l26 ?c26 ?k26 ?a27 ?l27 ?c27 ?k27 ?a28 ?l28 ?c28 ?k28 ?a29 ?l29 ?c29 ?k29 ?a30 ?l30 ?c30 ?k30 ?a31 ?l31 ?c31 ?k31 ?a32 ?l32 ?c32 ?k32 ?a33 ?l33 ?c33 ?k33 ?a34 ?l34 ?c34 ?k34 ?a35 ?l35 ?c35 ?k35 ?a36 ?l36 ?c36 ?k36 ?a37 ?i37 ?l37 ?c37 ?k37 ?a38 ?i38 ?l38 ?c38 ?k38 ?a39 ?i39 ?l39 ?c39 ?k39 ?a40 ?i40 ?l40 ?c40 ?k40 ?a41 ?i41 ?l41 ?c41 ?k41 ?a42 ?i42 ?l42 ?c42 ?k42 ?a43 ?i43 ?l43 ?c43 ?k43 ?a44 ?i44 ?l44 ?c44 ?k44 ?a45 ?i45 ?l45 ?c45 ?k45 ?a46 ?i46 ?l46 ?c46 ?k46 ?a47 ?i47 ?l47 ?c47 ?k47 ?a48 ?i48 ?l48 ?c48 ?k48 ?a49 ?i49 ?l49 ?c49 ?k49 ?a50 ?i50 ?l50 ?c50 ?k50 ?a51 ?i51 ?l51 ?c51 ?k51 ?a52 ?i52 ?l52 ?c52 ?k52 ?a53 ?i53 ?l53 ?c53 ?k53 ?a54 ?i54 ?l54 ?c54 ?k54 ?a55 ?i55 ?l55 ?c55 ?k55 ?a56 ?i56 ?l56 ?c56 ?k56 ?a57 ?i57 ?l57 ?c57 ?k57 ?a58 ?i58 ?l58 ?c58 ?k58 ?a59 ?i59 ?l59 ?c59 ?k59 ?a60 ?i60 ?l60 ?c60 ?k60 ?pgCases ?hdCases ?poCases ?saCases ?mkCases ?kcCases ?noCaseseverywhere ?noCasesyes ?noCasesno ?pgDiagram ?hdDiagram ?poDiagram ?saDiagram ?mkDiagram ?kcDiagram ?noDiagramcases ?noDiagramorder ?noDiagramnodes ?noDiagramnode_places ?noDiagrambegins ?pgCallReader ?hdCallReader ?poCallReader ?saCallReader ?mkCallReader ?kcCallReader ?noCallReadernumbers ?noCallReaderat ?pgState ?hdState ?poState ?saState ?mkState ?kcState ?noStatecases ?noStatefunctions ?xiRefusal ?xoRefusal ?xhRefusal ?xsRefusal ?xgRefusal ?xqRefusal ?xnRefusal ?xtRefusal ?xkRefusal ?xbRefusal ?xyRefusal ?xuRefusal ?xcRefusal ?xiOutOfRange ?xoOutOfRange ?xhOutOfRange ?xsOutOfRange ?xgOutOfRange ?xqOutOfRange ?xnOutOfRange ?xtOutOfRange ?xkOutOfRange ?xbOutOfRange ?xyOutOfRange ?xuOutOfRange ?xiNoCase ?xoNoCase ?xhNoCase ?xsNoCase ?xgNoCase ?xqNoCase ?xnNoCase ?xtNoCase ?xkNoCase ?xbNoCase ?xyNoCase ?xuNoCase ?xiTooManyMatter ?xoTooManyMatter ?xhTooManyMatter ?xsTooManyMatter ?xgTooManyMatter ?xqTooManyMatter ?xnTooManyMatter ?xtTooManyMatter ?xkTooManyMatter ?xbTooManyMatter ?xyTooManyMatter ?xuTooManyMatter ?rR ?gR ?vR ?nVARIABLES ?nCASES ?nNO_EVERYWHERE ?nREGISTERS ?nNO ?nYES ?nFIRST_NODE ?nOPS ?nMOST_MATTERING ?nDIAGRAM ?blen ?brange ?blist ?bsorted ?bmin ?qP ?zP ?qC ?zC ?eB ?lB ?vB ?hB ?nB) ?rest
    (case gCases => k_is)
    (case gRefusal => k_is)
    (case gOutOfRange => k_is)
    (case gNoCase => k_is)
    (case gTooManyMatter => k_is)
    (case gDiagram => k_is)
    (case gCallReader => k_is)
    (case gState => k_is)
    (case a1 => k_is)
    (case l1 => k_is)
    (case c1 => k_is)
    (case k1 => k_is)
    (case a2 => k_is)
    (case l2 => k_is)
    (case c2 => k_is)
    (case k2 => k_is)
    (case a3 => k_is)
    (case l3 => k_is)
    (case c3 => k_is)
    (case k3 => k_is)
    (case a4 => k_is)
    (case l4 => k_is)
    (case c4 => k_is)
    (case k4 => k_is)
    (case a5 => k_is)
    (case l5 => k_is)
    (case c5 => k_is)
    (case k5 => k_is)
    (case a6 => k_is)
    (case l6 => k_is)
    (case c6 => k_is)
    (case k6 => k_is)
    (case a7 => k_is)
    (case l7 => k_is)
    (case c7 => k_is)
    (case k7 => k_is)
    (case a8 => k_is)
    (case l8 => k_is)
    (case c8 => k_is)
    (case k8 => k_is)
    (case a9 => k_is)
    (case l9 => k_is)
    (case c9 => k_is)
    (case k9 => k_is)
    (case a10 => k_is)
    (case l10 => k_is)
    (case c10 => k_is)
    (case k10 => k_is)
    (case a11 => k_is)
    (case l11 => k_is)
    (case c11 => k_is)
    (case k11 => k_is)
    (case a12 => k_is)
    (case l12 => k_is)
    (case c12 => k_is)
    (case k12 => k_is)
    (case a13 => k_is)
    (case l13 => k_is)
    (case c13 => k_is)
    (case k13 => k_is)
    (case a14 => k_is)
    (case l14 => k_is)
    (case c14 => k_is)
    (case k14 => k_is)
    (case a15 => k_is)
    (case l15 => k_is)
    (case c15 => k_is)
    (case k15 => k_is)
    (case a16 => k_is)
    (case l16 => k_is)
    (case c16 => k_is)
    (case k16 => k_is)
    (case a17 => k_is)
    (case l17 => k_is)
    (case c17 => k_is)
    (case k17 => k_is)
    (case a18 => k_is)
    (case l18 => k_is)
    (case c18 => k_is)
    (case k18 => k_is)
    (case a19 => k_is)
    (case l19 => k_is)
    (case c19 => k_is)
    (case k19 => k_is)
    (case a20 => k_is)
    (case l20 => k_is)
    (case c20 => k_is)
    (case k20 => k_is)
    (case a21 => k_is)
    (case l21 => k_is)
    (case c21 => k_is)
    (case k21 => k_is)
    (case a22 => k_is)
    (case l22 => k_is)
    (case c22 => k_is)
    (case k22 => k_is)
    (case a23 => k_is)
    (case l23 => k_is)
    (case c23 => k_is)
    (case k23 => k_is)
    (case a24 => k_is)
    (case l24 => k_is)
    (case c24 => k_is)
    (case k24 => k_is)
    (case a25 => k_is)
    (case l25 => k_is)
    (case c25 => k_is)
    (case k25 => k_is)
    (case a26 => k_is)
    (case l26 => k_is)
    (case c26 => k_is)
    (case k26 => k_is)
    (case a27 => k_is)
    (case l27 => k_is)
    (case c27 => k_is)
    (case k27 => k_is)
    (case a28 => k_is)
    (case l28 => k_is)
    (case c28 => k_is)
    (case k28 => k_is)
    (case a29 => k_is)
    (case l29 => k_is)
    (case c29 => k_is)
    (case k29 => k_is)
    (case a30 => k_is)
    (case l30 => k_is)
    (case c30 => k_is)
    (case k30 => k_is)
    (case a31 => k_is)
    (case l31 => k_is)
    (case c31 => k_is)
    (case k31 => k_is)
    (case a32 => k_is)
    (case l32 => k_is)
    (case c32 => k_is)
    (case k32 => k_is)
    (case a33 => k_is)
    (case l33 => k_is)
    (case c33 => k_is)
    (case k33 => k_is)
    (case a34 => k_is)
    (case l34 => k_is)
    (case c34 => k_is)
    (case k34 => k_is)
    (case a35 => k_is)
    (case l35 => k_is)
    (case c35 => k_is)
    (case k35 => k_is)
    (case a36 => k_is)
    (case l36 => k_is)
    (case c36 => k_is)
    (case k36 => k_is)
    (case a37 => k_is)
    (case i37 => k_is)
    (case l37 => k_is)
    (case c37 => k_is)
    (case k37 => k_is)
    (case a38 => k_is)
    (case i38 => k_is)
    (case l38 => k_is)
    (case c38 => k_is)
    (case k38 => k_is)
    (case a39 => k_is)
    (case i39 => k_is)
    (case l39 => k_is)
    (case c39 => k_is)
    (case k39 => k_is)
    (case a40 => k_is)
    (case i40 => k_is)
    (case l40 => k_is)
    (case c40 => k_is)
    (case k40 => k_is)
    (case a41 => k_is)
    (case i41 => k_is)
    (case l41 => k_is)
    (case c41 => k_is)
    (case k41 => k_is)
    (case a42 => k_is)
    (case i42 => k_is)
    (case l42 => k_is)
    (case c42 => k_is)
    (case k42 => k_is)
    (case a43 => k_is)
    (case i43 => k_is)
    (case l43 => k_is)
    (case c43 => k_is)
    (case k43 => k_is)
    (case a44 => k_is)
    (case i44 => k_is)
    (case l44 => k_is)
    (case c44 => k_is)
    (case k44 => k_is)
    (case a45 => k_is)
    (case i45 => k_is)
    (case l45 => k_is)
    (case c45 => k_is)
    (case k45 => k_is)
    (case a46 => k_is)
    (case i46 => k_is)
    (case l46 => k_is)
    (case c46 => k_is)
    (case k46 => k_is)
    (case a47 => k_is)
    (case i47 => k_is)
    (case l47 => k_is)
    (case c47 => k_is)
    (case k47 => k_is)
    (case a48 => k_is)
    (case i48 => k_is)
    (case l48 => k_is)
    (case c48 => k_is)
    (case k48 => k_is)
    (case a49 => k_is)
    (case i49 => k_is)
    (case l49 => k_is)
    (case c49 => k_is)
    (case k49 => k_is)
    (case a50 => k_is)
    (case i50 => k_is)
    (case l50 => k_is)
    (case c50 => k_is)
    (case k50 => k_is)
    (case a51 => k_is)
    (case i51 => k_is)
    (case l51 => k_is)
    (case c51 => k_is)
    (case k51 => k_is)
    (case a52 => k_is)
    (case i52 => k_is)
    (case l52 => k_is)
    (case c52 => k_is)
    (case k52 => k_is)
    (case a53 => k_is)
    (case i53 => k_is)
    (case l53 => k_is)
    (case c53 => k_is)
    (case k53 => k_is)
    (case a54 => k_is)
    (case i54 => k_is)
    (case l54 => k_is)
    (case c54 => k_is)
    (case k54 => k_is)
    (case a55 => k_is)
    (case i55 => k_is)
    (case l55 => k_is)
    (case c55 => k_is)
    (case k55 => k_is)
    (case a56 => k_is)
    (case i56 => k_is)
    (case l56 => k_is)
    (case c56 => k_is)
    (case k56 => k_is)
    (case a57 => k_is)
    (case i57 => k_is)
    (case l57 => k_is)
    (case c57 => k_is)
    (case k57 => k_is)
    (case a58 => k_is)
    (case i58 => k_is)
    (case l58 => k_is)
    (case c58 => k_is)
    (case k58 => k_is)
    (case a59 => k_is)
    (case i59 => k_is)
    (case l59 => k_is)
    (case c59 => k_is)
    (case k59 => k_is)
    (case a60 => k_is)
    (case i60 => k_is)
    (case l60 => k_is)
    (case c60 => k_is)
    (case k60 => k_is)
    (case pgCases => k_is)
    (case hdCases => k_is)
    (case poCases => k_is)
    (case saCases => k_is)
    (case mkCases => k_is)
    (case kcCases => k_is)
    (case noCaseseverywhere => k_is)
    (case noCasesyes => k_is)
    (case noCasesno => k_is)
    (case pgDiagram => k_is)
    (case hdDiagram => k_is)
    (case poDiagram => k_is)
    (case saDiagram => k_is)
    (case mkDiagram => k_is)
    (case kcDiagram => k_is)
    (case noDiagramcases => k_is)
    (case noDiagramorder => k_is)
    (case noDiagramnodes => k_is)
    (case noDiagramnode_places => k_is)
    (case noDiagrambegins => k_is)
    (case pgCallReader => k_is)
    (case hdCallReader => k_is)
    (case poCallReader => k_is)
    (case saCallReader => k_is)
    (case mkCallReader => k_is)
    (case kcCallReader => k_is)
    (case noCallReadernumbers => k_is)
    (case noCallReaderat => k_is)
    (case pgState => k_is)
    (case hdState => k_is)
    (case poState => k_is)
    (case saState => k_is)
    (case mkState => k_is)
    (case kcState => k_is)
    (case noStatecases => k_is)
    (case noStatefunctions => k_is)
    (case xiRefusal => kernel_rfl)
    (case xoRefusal => kernel_rfl)
    (case xhRefusal => k_is)
    (case xsRefusal => k_is)
    (case xgRefusal => k_is)
    (case xqRefusal => k_is)
    (case xnRefusal => k_is)
    (case xtRefusal => k_is)
    (case xkRefusal => k_is)
    (case xbRefusal => k_is)
    (case xyRefusal => k_is)
    (case xuRefusal => first | rfl | k_is)
    (case xcRefusal => k_is)
    (case xiOutOfRange => kernel_rfl)
    (case xoOutOfRange => kernel_rfl)
    (case xhOutOfRange => k_is)
    (case xsOutOfRange => k_is)
    (case xgOutOfRange => k_is)
    (case xqOutOfRange => k_is)
    (case xnOutOfRange => k_is)
    (case xtOutOfRange => k_is)
    (case xkOutOfRange => k_is)
    (case xbOutOfRange => k_is)
    (case xyOutOfRange => k_is)
    (case xuOutOfRange => first | rfl | k_is)
    (case xiNoCase => kernel_rfl)
    (case xoNoCase => kernel_rfl)
    (case xhNoCase => k_is)
    (case xsNoCase => k_is)
    (case xgNoCase => k_is)
    (case xqNoCase => k_is)
    (case xnNoCase => k_is)
    (case xtNoCase => k_is)
    (case xkNoCase => k_is)
    (case xbNoCase => k_is)
    (case xyNoCase => k_is)
    (case xuNoCase => first | rfl | k_is)
    (case xiTooManyMatter => kernel_rfl)
    (case xoTooManyMatter => kernel_rfl)
    (case xhTooManyMatter => k_is)
    (case xsTooManyMatter => k_is)
    (case xgTooManyMatter => k_is)
    (case xqTooManyMatter => k_is)
    (case xnTooManyMatter => k_is)
    (case xtTooManyMatter => k_is)
    (case xkTooManyMatter => k_is)
    (case xbTooManyMatter => k_is)
    (case xyTooManyMatter => k_is)
    (case xuTooManyMatter => first | rfl | k_is)
    (case rR => k_is)
    (case gR => k_is)
    (case vR => k_is)
    (case nVARIABLES => k_is)
    (case nCASES => k_is)
    (case nNO_EVERYWHERE => k_is)
    (case nREGISTERS => k_is)
    (case nNO => k_is)
    (case nYES => k_is)
    (case nFIRST_NODE => k_is)
    (case nOPS => k_is)
    (case nMOST_MATTERING => k_is)
    (case nDIAGRAM => k_is)
    (case blen => k_is)
    (case brange => k_is)
    (case blist => k_is)
    (case bsorted => k_is)
    (case bmin => k_is)
    (case qP => k_is)
    (case zP => k_is)
    (case qC => k_is)
    (case zC => k_is)
    (case eB => exact rfl)
    (case lB => k_is)
    (case vB => exact rfl)
    (case hB => kernel_rfl)
    (case nB => kernel_rfl)
    (case rest =>
      intro a T ef
      have e2 : fa = a.f_answers := by
        have z := hmg.symm.trans T.answers.g
        injection z with z
        injection z
      subst e2
      refine ⟨a.d_answers, a.k_best, a.p_best, Option.get _ ?is, T.answers.b, (Option.some_get ?is).symm, T.tb, T.nb, fun base KB GB TB => Ten.ok_desk T TB⟩
      decide +kernel)
