import PyProof.Rows.All
import Wide.All
import OpenK.AllK
import Wide.FinOn
import KE.KStateDown
import Lean
import HandS.ForMost
import HandS.Defaults
import HandS.Head0
import HandS.Head1
import HandS.Head2
import HandS.HeadEnd
import HandS.HeadHook1
import HandS.HeadHook2
import HandS.HeadHook3
import HandS.HeadHook4
import HandS.Codes
import HandS.Walk
import HandS.TupAny
import HandS.IsInst
import HandS.Deep
import HandS.DictComp
import HandS.WideBits
import HandS.Strs
import HandS.FStr
import HandS.Zip
import HandS.OwnEq
import HandS.TupMul
import KE.GoesEnum
import OpenK.KOps
import KE.KDictZip
import KE.KDictPairs
import HandS.Style
import HandS.FStrTup
import PyProof.ReprHeads
import PySem.Challenge.RW_typedonce_k59_whole_apart_claimed
/-! K59Defs -/
set_option Elab.async false
set_option linter.all false
set_option maxRecDepth 100000
set_option maxHeartbeats 0
namespace K59
open PySem L2
/-! ### the text, by places -/
def topS (i : Nat) : Stmt := PySem.Challenge.pw_typedonce_k59_whole_apart_claimed.main.body.getD i (.Pass ⟨0, 0, 0, 0⟩)
abbrev s_empty_table : Stmt := topS 14
abbrev s_put : Stmt := topS 15
abbrev s_closed : Stmt := topS 16
abbrev s_is_integer : Stmt := topS 20
abbrev s_is_between : Stmt := topS 21
abbrev s_is_name : Stmt := topS 22
abbrev s_are_values : Stmt := topS 23
abbrev s_integer_in : Stmt := topS 24
abbrev s_is_rule : Stmt := topS 26
abbrev s_wrong_field : Stmt := topS 27
abbrev s_wrong_rule : Stmt := topS 28
abbrev s_rule_text : Stmt := topS 29
abbrev s_form_text : Stmt := topS 30
abbrev s_rule_in : Stmt := topS 31
abbrev s_form_in : Stmt := topS 32
abbrev s_check_fields : Stmt := topS 33
abbrev s_is_good_filling : Stmt := topS 35
abbrev s_arcs_of : Stmt := topS 45
abbrev s_are_joined : Stmt := topS 46
abbrev s_ring_in : Stmt := topS 47
abbrev s_sum_of : Stmt := topS 48
abbrev s_lies_on : Stmt := topS 49
abbrev s_is_field : Stmt := topS 50
abbrev s_apart_shown : Stmt := topS 57
abbrev s_pair_shown : Stmt := topS 61
abbrev s_holds_claim : Stmt := topS 62
abbrev s_L_flask : Stmt := topS 64
abbrev s_L_drop : Stmt := topS 65
abbrev s_L_of : Stmt := topS 66
abbrev s_L_tags : Stmt := topS 67
abbrev s_L_bond : Stmt := topS 68
abbrev s_L_shape : Stmt := topS 69
abbrev s_L_page : Stmt := topS 70
abbrev s_L_ends : Stmt := topS 71
abbrev s_L_keeps : Stmt := topS 72
abbrev s_L_are_values : Stmt := topS 73
abbrev s_L_is_good : Stmt := topS 74
abbrev s_L_table : Stmt := topS 75
abbrev s_L_has : Stmt := topS 76
abbrev s_L_frozen : Stmt := topS 77
abbrev s_L_some_fill : Stmt := topS 78
abbrev s_L_full_shape : Stmt := topS 79
abbrev s_L_arcs : Stmt := topS 80
abbrev s_L_ring_sum : Stmt := topS 81
abbrev s_L_rings : Stmt := topS 82
abbrev s_L_goes_on : Stmt := topS 83
abbrev s_L_bent_spots : Stmt := topS 84
abbrev s_L_with : Stmt := topS 85
abbrev s_L_behind : Stmt := topS 86
abbrev s_L_some_steps : Stmt := topS 87
abbrev s_L_differ : Stmt := topS 88
abbrev s_L_are_akin : Stmt := topS 89
abbrev s_L_right : Stmt := topS 90
abbrev s_law : Stmt := topS 91
abbrev sF_init : Stmt := inClass (topS 34) 0
abbrev sF_len : Stmt := inClass (topS 34) 2
abbrev sF_ends_of : Stmt := inClass (topS 34) 4
abbrev sF_own_table : Stmt := inClass (topS 34) 5
abbrev sF_keeps : Stmt := inClass (topS 34) 6
abbrev sF_broken : Stmt := inClass (topS 34) 7
/-! ### the facts of the top -/
def fa0 : List He.Fa := [.glo "empty_table", .glo "put", .glo "closed", .glo "is_integer", .glo "is_between", .glo "is_name", .glo "are_values", .glo "integer_in", .glo "is_rule", .glo "wrong_field", .glo "wrong_rule", .glo "rule_text", .glo "form_text", .glo "rule_in", .glo "form_in", .glo "check_fields", .glo "is_good_filling", .glo "arcs_of", .glo "are_joined", .glo "ring_in", .glo "sum_of", .glo "lies_on", .glo "is_field", .glo "apart_shown", .glo "pair_shown", .glo "holds_claim", .glo "_law_flask", .glo "_law_drop", .glo "_law_of", .glo "_law_tags"]
def fa1 : List He.Fa := [.glo "_law_bond", .glo "_law_shape", .glo "_law_page", .glo "_law_ends", .glo "_law_keeps", .glo "_law_are_values", .glo "_law_is_good", .glo "_law_table", .glo "_law_has", .glo "_law_frozen", .glo "_law_some_fill", .glo "_law_full_shape", .glo "_law_arcs", .glo "_law_ring_sum", .glo "_law_rings", .glo "_law_goes_on", .glo "_law_bent_spots", .glo "_law_with", .glo "_law_behind", .glo "_law_some_steps", .glo "_law_differ", .glo "_law_are_akin", .glo "_law_right", .glo "law", .glo "Form", .glo "WORDS", .free "isinstance", .free "int", .free "bool", .free "str"]
def fa2 : List He.Fa := [.free "tuple", .free "list", .free "len", .free "all", .free "sum", .free "range", .free "enumerate", .free "abs", .free "divmod", .free "max", .free "min", .free "set", .free "dict", .free "zip", .free "repr", .int "MOST_VALUE" 1000000000, .int "MOST_BOUND" 1000, .int "MOST_NAME" 8, .int "MOST_FIELDS" 5, .int "MOST_RULES" 30, .str "LETTERS" "abcdefghijklmnopqrstuvwxyz", .str "SIGNS" "0123456789", .cls "Form", .mkr "Form", .noat "Form" "fields", .noat "Form" "rules", .noat "Form" "table", .meth "Form" "__len__", .meth "Form" "ends_of", .meth "Form" "own_table"]
def fa3 : List He.Fa := [.meth "Form" "keeps", .meth "Form" "broken"]
def fa : List He.Fa := fa0 ++ fa1 ++ fa2 ++ fa3
def D_empty_table : He.DefD := ⟨("empty_table", none), "empty_table", "empty_table", defArgs s_empty_table, defBody s_empty_table, defScope s_empty_table, [], []⟩
def D_put : He.DefD := ⟨("put", none), "put", "put", defArgs s_put, defBody s_put, defScope s_put, [], []⟩
def D_closed : He.DefD := ⟨("closed", none), "closed", "closed", defArgs s_closed, defBody s_closed, defScope s_closed, [], []⟩
def D_is_integer : He.DefD := ⟨("is_integer", none), "is_integer", "is_integer", defArgs s_is_integer, defBody s_is_integer, defScope s_is_integer, [], []⟩
def D_is_between : He.DefD := ⟨("is_between", none), "is_between", "is_between", defArgs s_is_between, defBody s_is_between, defScope s_is_between, [], []⟩
def D_is_name : He.DefD := ⟨("is_name", none), "is_name", "is_name", defArgs s_is_name, defBody s_is_name, defScope s_is_name, [], []⟩
def D_are_values : He.DefD := ⟨("are_values", none), "are_values", "are_values", defArgs s_are_values, defBody s_are_values, defScope s_are_values, [], []⟩
def D_integer_in : He.DefD := ⟨("integer_in", none), "integer_in", "integer_in", defArgs s_integer_in, defBody s_integer_in, defScope s_integer_in, [], []⟩
def D_is_rule : He.DefD := ⟨("is_rule", none), "is_rule", "is_rule", defArgs s_is_rule, defBody s_is_rule, defScope s_is_rule, [], []⟩
def D_wrong_field : He.DefD := ⟨("wrong_field", none), "wrong_field", "wrong_field", defArgs s_wrong_field, defBody s_wrong_field, defScope s_wrong_field, [], []⟩
def D_wrong_rule : He.DefD := ⟨("wrong_rule", none), "wrong_rule", "wrong_rule", defArgs s_wrong_rule, defBody s_wrong_rule, defScope s_wrong_rule, [], []⟩
def D_rule_text : He.DefD := ⟨("rule_text", none), "rule_text", "rule_text", defArgs s_rule_text, defBody s_rule_text, defScope s_rule_text, [], []⟩
def D_form_text : He.DefD := ⟨("form_text", none), "form_text", "form_text", defArgs s_form_text, defBody s_form_text, defScope s_form_text, [], []⟩
def D_rule_in : He.DefD := ⟨("rule_in", none), "rule_in", "rule_in", defArgs s_rule_in, defBody s_rule_in, defScope s_rule_in, [], []⟩
def D_form_in : He.DefD := ⟨("form_in", none), "form_in", "form_in", defArgs s_form_in, defBody s_form_in, defScope s_form_in, [], []⟩
def D_check_fields : He.DefD := ⟨("check_fields", none), "check_fields", "check_fields", defArgs s_check_fields, defBody s_check_fields, defScope s_check_fields, [], []⟩
def D_is_good_filling : He.DefD := ⟨("is_good_filling", none), "is_good_filling", "is_good_filling", defArgs s_is_good_filling, defBody s_is_good_filling, defScope s_is_good_filling, [], []⟩
def D_arcs_of : He.DefD := ⟨("arcs_of", none), "arcs_of", "arcs_of", defArgs s_arcs_of, defBody s_arcs_of, defScope s_arcs_of, [], []⟩
def D_are_joined : He.DefD := ⟨("are_joined", none), "are_joined", "are_joined", defArgs s_are_joined, defBody s_are_joined, defScope s_are_joined, [], []⟩
def D_ring_in : He.DefD := ⟨("ring_in", none), "ring_in", "ring_in", defArgs s_ring_in, defBody s_ring_in, defScope s_ring_in, [], []⟩
def D_sum_of : He.DefD := ⟨("sum_of", none), "sum_of", "sum_of", defArgs s_sum_of, defBody s_sum_of, defScope s_sum_of, [], []⟩
def D_lies_on : He.DefD := ⟨("lies_on", none), "lies_on", "lies_on", defArgs s_lies_on, defBody s_lies_on, defScope s_lies_on, [], []⟩
def D_is_field : He.DefD := ⟨("is_field", none), "is_field", "is_field", defArgs s_is_field, defBody s_is_field, defScope s_is_field, [], []⟩
def D_apart_shown : He.DefD := ⟨("apart_shown", none), "apart_shown", "apart_shown", defArgs s_apart_shown, defBody s_apart_shown, defScope s_apart_shown, [], []⟩
def D_pair_shown : He.DefD := ⟨("pair_shown", none), "pair_shown", "pair_shown", defArgs s_pair_shown, defBody s_pair_shown, defScope s_pair_shown, [], []⟩
def D_holds_claim : He.DefD := ⟨("holds_claim", none), "holds_claim", "holds_claim", defArgs s_holds_claim, defBody s_holds_claim, defScope s_holds_claim, [], []⟩
def D_L_flask : He.DefD := ⟨("_law_flask", none), "_law_flask", "_law_flask", defArgs s_L_flask, defBody s_L_flask, defScope s_L_flask, [], []⟩
def D_L_drop : He.DefD := ⟨("_law_drop", none), "_law_drop", "_law_drop", defArgs s_L_drop, defBody s_L_drop, defScope s_L_drop, [], []⟩
def D_L_of : He.DefD := ⟨("_law_of", none), "_law_of", "_law_of", defArgs s_L_of, defBody s_L_of, defScope s_L_of, [], []⟩
def D_L_tags : He.DefD := ⟨("_law_tags", none), "_law_tags", "_law_tags", defArgs s_L_tags, defBody s_L_tags, defScope s_L_tags, [], []⟩
def D_L_bond : He.DefD := ⟨("_law_bond", none), "_law_bond", "_law_bond", defArgs s_L_bond, defBody s_L_bond, defScope s_L_bond, [], []⟩
def D_L_shape : He.DefD := ⟨("_law_shape", none), "_law_shape", "_law_shape", defArgs s_L_shape, defBody s_L_shape, defScope s_L_shape, [], []⟩
def D_L_page : He.DefD := ⟨("_law_page", none), "_law_page", "_law_page", defArgs s_L_page, defBody s_L_page, defScope s_L_page, [], []⟩
def D_L_ends : He.DefD := ⟨("_law_ends", none), "_law_ends", "_law_ends", defArgs s_L_ends, defBody s_L_ends, defScope s_L_ends, [], []⟩
def D_L_keeps : He.DefD := ⟨("_law_keeps", none), "_law_keeps", "_law_keeps", defArgs s_L_keeps, defBody s_L_keeps, defScope s_L_keeps, [], []⟩
def D_L_are_values : He.DefD := ⟨("_law_are_values", none), "_law_are_values", "_law_are_values", defArgs s_L_are_values, defBody s_L_are_values, defScope s_L_are_values, [], []⟩
def D_L_is_good : He.DefD := ⟨("_law_is_good", none), "_law_is_good", "_law_is_good", defArgs s_L_is_good, defBody s_L_is_good, defScope s_L_is_good, [], []⟩
def D_L_table : He.DefD := ⟨("_law_table", none), "_law_table", "_law_table", defArgs s_L_table, defBody s_L_table, defScope s_L_table, [], []⟩
def D_L_has : He.DefD := ⟨("_law_has", none), "_law_has", "_law_has", defArgs s_L_has, defBody s_L_has, defScope s_L_has, [], []⟩
def D_L_frozen : He.DefD := ⟨("_law_frozen", none), "_law_frozen", "_law_frozen", defArgs s_L_frozen, defBody s_L_frozen, defScope s_L_frozen, [], []⟩
def D_L_some_fill : He.DefD := ⟨("_law_some_fill", none), "_law_some_fill", "_law_some_fill", defArgs s_L_some_fill, defBody s_L_some_fill, defScope s_L_some_fill, [], []⟩
def D_L_full_shape : He.DefD := ⟨("_law_full_shape", none), "_law_full_shape", "_law_full_shape", defArgs s_L_full_shape, defBody s_L_full_shape, defScope s_L_full_shape, [], []⟩
def D_L_arcs : He.DefD := ⟨("_law_arcs", none), "_law_arcs", "_law_arcs", defArgs s_L_arcs, defBody s_L_arcs, defScope s_L_arcs, [], []⟩
def D_L_ring_sum : He.DefD := ⟨("_law_ring_sum", none), "_law_ring_sum", "_law_ring_sum", defArgs s_L_ring_sum, defBody s_L_ring_sum, defScope s_L_ring_sum, [], []⟩
def D_L_rings : He.DefD := ⟨("_law_rings", none), "_law_rings", "_law_rings", defArgs s_L_rings, defBody s_L_rings, defScope s_L_rings, [], []⟩
def D_L_goes_on : He.DefD := ⟨("_law_goes_on", none), "_law_goes_on", "_law_goes_on", defArgs s_L_goes_on, defBody s_L_goes_on, defScope s_L_goes_on, [], []⟩
def D_L_bent_spots : He.DefD := ⟨("_law_bent_spots", none), "_law_bent_spots", "_law_bent_spots", defArgs s_L_bent_spots, defBody s_L_bent_spots, defScope s_L_bent_spots, [], []⟩
def D_L_with : He.DefD := ⟨("_law_with", none), "_law_with", "_law_with", defArgs s_L_with, defBody s_L_with, defScope s_L_with, [], []⟩
def D_L_behind : He.DefD := ⟨("_law_behind", none), "_law_behind", "_law_behind", defArgs s_L_behind, defBody s_L_behind, defScope s_L_behind, [], []⟩
def D_L_some_steps : He.DefD := ⟨("_law_some_steps", none), "_law_some_steps", "_law_some_steps", defArgs s_L_some_steps, defBody s_L_some_steps, defScope s_L_some_steps, [], []⟩
def D_L_differ : He.DefD := ⟨("_law_differ", none), "_law_differ", "_law_differ", defArgs s_L_differ, defBody s_L_differ, defScope s_L_differ, [], []⟩
def D_L_are_akin : He.DefD := ⟨("_law_are_akin", none), "_law_are_akin", "_law_are_akin", defArgs s_L_are_akin, defBody s_L_are_akin, defScope s_L_are_akin, [], []⟩
def D_L_right : He.DefD := ⟨("_law_right", none), "_law_right", "_law_right", defArgs s_L_right, defBody s_L_right, defScope s_L_right, [], []⟩
def D_law : He.DefD := ⟨("law", none), "law", "law", defArgs s_law, defBody s_law, defScope s_law, [], []⟩
def DF_init : He.DefD := ⟨("Form", some "__init__"), "__init__", "Form.__init__", defArgs sF_init, defBody sF_init, defScope sF_init, [.adr (He.dflAt ("Form", some "__init__") 0)], []⟩
def DF_len : He.DefD := ⟨("Form", some "__len__"), "__len__", "Form.__len__", defArgs sF_len, defBody sF_len, defScope sF_len, [], []⟩
def DF_ends_of : He.DefD := ⟨("Form", some "ends_of"), "ends_of", "Form.ends_of", defArgs sF_ends_of, defBody sF_ends_of, defScope sF_ends_of, [], []⟩
def DF_own_table : He.DefD := ⟨("Form", some "own_table"), "own_table", "Form.own_table", defArgs sF_own_table, defBody sF_own_table, defScope sF_own_table, [], []⟩
def DF_keeps : He.DefD := ⟨("Form", some "keeps"), "keeps", "Form.keeps", defArgs sF_keeps, defBody sF_keeps, defScope sF_keeps, [], []⟩
def DF_broken : He.DefD := ⟨("Form", some "broken"), "broken", "Form.broken", defArgs sF_broken, defBody sF_broken, defScope sF_broken, [], []⟩
def fn0 : List He.DefD := [D_empty_table, D_put, D_closed, D_is_integer, D_is_between, D_is_name, D_are_values, D_integer_in, D_is_rule, D_wrong_field, D_wrong_rule, D_rule_text, D_form_text, D_rule_in, D_form_in, D_check_fields, D_is_good_filling, D_arcs_of, D_are_joined, D_ring_in, D_sum_of, D_lies_on, D_is_field, D_apart_shown, D_pair_shown, D_holds_claim, D_L_flask, D_L_drop, D_L_of, D_L_tags]
def fn1 : List He.DefD := [D_L_bond, D_L_shape, D_L_page, D_L_ends, D_L_keeps, D_L_are_values, D_L_is_good, D_L_table, D_L_has, D_L_frozen, D_L_some_fill, D_L_full_shape, D_L_arcs, D_L_ring_sum, D_L_rings, D_L_goes_on, D_L_bent_spots, D_L_with, D_L_behind, D_L_some_steps, D_L_differ, D_L_are_akin, D_L_right, D_law, DF_init, DF_len, DF_ends_of, DF_own_table, DF_keeps, DF_broken]
def fn : List He.DefD := fn0 ++ fn1
def wordsD : List He.Dv := [.str "empty", .str "frozen", .str "implied", .str "comes", .str "apart", .str "order", .str "knot"]
def ex (K : PySem.W.Frag) : Bool := He.tupB K "WORDS" wordsD
end K59
/-! K59Sys -/
set_option Elab.async false
set_option linter.all false
set_option maxRecDepth 100000
set_option maxHeartbeats 4000000
namespace K59
open PySem PySem.W PySem.Calls PySem.Spec PyProof.Rows L2
/-! ### what is looked at behind the top: the module's objects, their codes, the classes' methods -/
def vals1 (g : Addr → Option Obj) (a : Addr) : List Addr := match g a with
  | some o => He.refsO o
  | none => []
def vals2 (g : Addr → Option Obj) (a : Addr) : List Addr := match g a with
  | some ⟨_, _, .dict es _, _⟩ => es.toList.flatMap fun e => He.refV e.val
  | _ => []
def asM (g : Addr → Option Obj) : List Addr :=
  let l1 := vals1 g mainGlobals
  let l2 := l1.flatMap (vals1 g)
  let l3 := l2.flatMap (vals2 g)
  mainGlobals :: (l1 ++ (l2 ++ (l3 ++ l3.flatMap (vals1 g))))
abbrev AlM : Type := Bool × List He.FnW
def obsM (fs : List He.Fa) (ds : List He.DefD) (x : Frag → Bool) (K : Frag) : AlM := ((fs.all fun f => f.ok K) && ((ds.all fun d => d.ok K) && x K), ds.map fun d => He.fnW K d.at_)
def obM (fs : List He.Fa) (ds : List He.DefD) (x : Frag → Bool) (g : Addr → Option Obj) : AlM := obsM fs ds x (He.frG g (asM g))
def valM (ds : List He.DefD) : AlM := (true, ds.map He.DefD.val)
def SaysM (fs : List He.Fa) (ds : List He.DefD) (x : Frag → Bool) (K : Frag) : Prop := He.SaysD fs ds K ∧ x K = true
theorem saysM_of {fs : List He.Fa} {ds : List He.DefD} {x : Frag → Bool} {K : Frag} (e : obsM fs ds x K = valM ds) : SaysM fs ds x K := by
  have e1 : ((fs.all fun f => f.ok K) && ((ds.all fun d => d.ok K) && x K)) = true := congrArg (fun z : AlM => z.1) e
  have e2 : ds.map (fun d => He.fnW K d.at_) = ds.map He.DefD.val := congrArg (fun z : AlM => z.2) e
  obtain ⟨a, b⟩ := He.ba e1
  obtain ⟨b1, b2⟩ := He.ba b
  refine ⟨?_, b2⟩
  show ((fs.all fun f => f.ok K) && ds.all fun d => d.ok K, ds.map fun d => He.fnW K d.at_) = (true, ds.map He.DefD.val)
  rw [a, b1, e2] <;> rfl
def hookM (fs : List He.Fa) (ds : List He.DefD) (x : Frag → Bool) : Hook where
  α := AlM
  obs := fun s => obM fs ds x s.heap.get?
  val := fun _ => valM ds
  says := fun _ h => ∃ K : Frag, K.In h ∧ SaysM fs ds x K
  of := fun _ _ e => ⟨_, He.frG_in, saysM_of e⟩
  keeps := fun _ _ _ ⟨K, hK, c⟩ k => ⟨K, Frag.In.keeps hK k, c⟩
structure Sys (K : Frag) (mg : Str → Option Value) : Prop where
  at_ : ∃ h : Heap, K.In h ∧ h.Ns mainGlobals mg
  says : SaysM fa fn ex K
section
variable {K : Frag} {mg : Str → Option Value}
noncomputable def Sys.h (S : Sys K mg) : Heap := Classical.choose S.at_
theorem Sys.KX (S : Sys K mg) : K.In S.h := (Classical.choose_spec S.at_).1
theorem Sys.G (S : Sys K mg) : S.h.Ns mainGlobals mg := (Classical.choose_spec S.at_).2
theorem relI {x : Str} {i : Int} (h : ∃ t, mg x = some (.int i t)) : ∃ u, mg x = some u ∧ RelV (.int i) u := let ⟨t, e⟩ := h; ⟨_, e, t, rfl⟩
theorem relS_ {x z : Str} (h : ∃ t, mg x = some (.str z t)) : ∃ u, mg x = some u ∧ RelV (.str z) u := let ⟨t, e⟩ := h; ⟨_, e, t, rfl⟩
theorem Sys.g_empty_table (S : Sys K mg) : mg "empty_table" = some (.ref (He.ga K "empty_table")) := He.glo_ok S.KX S.G (S.says.1.fact 0 (f := .glo "empty_table") rfl)
theorem Sys.g_put (S : Sys K mg) : mg "put" = some (.ref (He.ga K "put")) := He.glo_ok S.KX S.G (S.says.1.fact 1 (f := .glo "put") rfl)
theorem Sys.g_closed (S : Sys K mg) : mg "closed" = some (.ref (He.ga K "closed")) := He.glo_ok S.KX S.G (S.says.1.fact 2 (f := .glo "closed") rfl)
theorem Sys.g_is_integer (S : Sys K mg) : mg "is_integer" = some (.ref (He.ga K "is_integer")) := He.glo_ok S.KX S.G (S.says.1.fact 3 (f := .glo "is_integer") rfl)
theorem Sys.g_is_between (S : Sys K mg) : mg "is_between" = some (.ref (He.ga K "is_between")) := He.glo_ok S.KX S.G (S.says.1.fact 4 (f := .glo "is_between") rfl)
theorem Sys.g_is_name (S : Sys K mg) : mg "is_name" = some (.ref (He.ga K "is_name")) := He.glo_ok S.KX S.G (S.says.1.fact 5 (f := .glo "is_name") rfl)
theorem Sys.g_are_values (S : Sys K mg) : mg "are_values" = some (.ref (He.ga K "are_values")) := He.glo_ok S.KX S.G (S.says.1.fact 6 (f := .glo "are_values") rfl)
theorem Sys.g_integer_in (S : Sys K mg) : mg "integer_in" = some (.ref (He.ga K "integer_in")) := He.glo_ok S.KX S.G (S.says.1.fact 7 (f := .glo "integer_in") rfl)
theorem Sys.g_is_rule (S : Sys K mg) : mg "is_rule" = some (.ref (He.ga K "is_rule")) := He.glo_ok S.KX S.G (S.says.1.fact 8 (f := .glo "is_rule") rfl)
theorem Sys.g_wrong_field (S : Sys K mg) : mg "wrong_field" = some (.ref (He.ga K "wrong_field")) := He.glo_ok S.KX S.G (S.says.1.fact 9 (f := .glo "wrong_field") rfl)
theorem Sys.g_wrong_rule (S : Sys K mg) : mg "wrong_rule" = some (.ref (He.ga K "wrong_rule")) := He.glo_ok S.KX S.G (S.says.1.fact 10 (f := .glo "wrong_rule") rfl)
theorem Sys.g_rule_text (S : Sys K mg) : mg "rule_text" = some (.ref (He.ga K "rule_text")) := He.glo_ok S.KX S.G (S.says.1.fact 11 (f := .glo "rule_text") rfl)
theorem Sys.g_form_text (S : Sys K mg) : mg "form_text" = some (.ref (He.ga K "form_text")) := He.glo_ok S.KX S.G (S.says.1.fact 12 (f := .glo "form_text") rfl)
theorem Sys.g_rule_in (S : Sys K mg) : mg "rule_in" = some (.ref (He.ga K "rule_in")) := He.glo_ok S.KX S.G (S.says.1.fact 13 (f := .glo "rule_in") rfl)
theorem Sys.g_form_in (S : Sys K mg) : mg "form_in" = some (.ref (He.ga K "form_in")) := He.glo_ok S.KX S.G (S.says.1.fact 14 (f := .glo "form_in") rfl)
theorem Sys.g_check_fields (S : Sys K mg) : mg "check_fields" = some (.ref (He.ga K "check_fields")) := He.glo_ok S.KX S.G (S.says.1.fact 15 (f := .glo "check_fields") rfl)
theorem Sys.g_is_good_filling (S : Sys K mg) : mg "is_good_filling" = some (.ref (He.ga K "is_good_filling")) := He.glo_ok S.KX S.G (S.says.1.fact 16 (f := .glo "is_good_filling") rfl)
theorem Sys.g_arcs_of (S : Sys K mg) : mg "arcs_of" = some (.ref (He.ga K "arcs_of")) := He.glo_ok S.KX S.G (S.says.1.fact 17 (f := .glo "arcs_of") rfl)
theorem Sys.g_are_joined (S : Sys K mg) : mg "are_joined" = some (.ref (He.ga K "are_joined")) := He.glo_ok S.KX S.G (S.says.1.fact 18 (f := .glo "are_joined") rfl)
theorem Sys.g_ring_in (S : Sys K mg) : mg "ring_in" = some (.ref (He.ga K "ring_in")) := He.glo_ok S.KX S.G (S.says.1.fact 19 (f := .glo "ring_in") rfl)
theorem Sys.g_sum_of (S : Sys K mg) : mg "sum_of" = some (.ref (He.ga K "sum_of")) := He.glo_ok S.KX S.G (S.says.1.fact 20 (f := .glo "sum_of") rfl)
theorem Sys.g_lies_on (S : Sys K mg) : mg "lies_on" = some (.ref (He.ga K "lies_on")) := He.glo_ok S.KX S.G (S.says.1.fact 21 (f := .glo "lies_on") rfl)
theorem Sys.g_is_field (S : Sys K mg) : mg "is_field" = some (.ref (He.ga K "is_field")) := He.glo_ok S.KX S.G (S.says.1.fact 22 (f := .glo "is_field") rfl)
theorem Sys.g_apart_shown (S : Sys K mg) : mg "apart_shown" = some (.ref (He.ga K "apart_shown")) := He.glo_ok S.KX S.G (S.says.1.fact 23 (f := .glo "apart_shown") rfl)
theorem Sys.g_pair_shown (S : Sys K mg) : mg "pair_shown" = some (.ref (He.ga K "pair_shown")) := He.glo_ok S.KX S.G (S.says.1.fact 24 (f := .glo "pair_shown") rfl)
theorem Sys.g_holds_claim (S : Sys K mg) : mg "holds_claim" = some (.ref (He.ga K "holds_claim")) := He.glo_ok S.KX S.G (S.says.1.fact 25 (f := .glo "holds_claim") rfl)
theorem Sys.g_L_flask (S : Sys K mg) : mg "_law_flask" = some (.ref (He.ga K "_law_flask")) := He.glo_ok S.KX S.G (S.says.1.fact 26 (f := .glo "_law_flask") rfl)
theorem Sys.g_L_drop (S : Sys K mg) : mg "_law_drop" = some (.ref (He.ga K "_law_drop")) := He.glo_ok S.KX S.G (S.says.1.fact 27 (f := .glo "_law_drop") rfl)
theorem Sys.g_L_of (S : Sys K mg) : mg "_law_of" = some (.ref (He.ga K "_law_of")) := He.glo_ok S.KX S.G (S.says.1.fact 28 (f := .glo "_law_of") rfl)
theorem Sys.g_L_tags (S : Sys K mg) : mg "_law_tags" = some (.ref (He.ga K "_law_tags")) := He.glo_ok S.KX S.G (S.says.1.fact 29 (f := .glo "_law_tags") rfl)
theorem Sys.g_L_bond (S : Sys K mg) : mg "_law_bond" = some (.ref (He.ga K "_law_bond")) := He.glo_ok S.KX S.G (S.says.1.fact 30 (f := .glo "_law_bond") rfl)
theorem Sys.g_L_shape (S : Sys K mg) : mg "_law_shape" = some (.ref (He.ga K "_law_shape")) := He.glo_ok S.KX S.G (S.says.1.fact 31 (f := .glo "_law_shape") rfl)
theorem Sys.g_L_page (S : Sys K mg) : mg "_law_page" = some (.ref (He.ga K "_law_page")) := He.glo_ok S.KX S.G (S.says.1.fact 32 (f := .glo "_law_page") rfl)
theorem Sys.g_L_ends (S : Sys K mg) : mg "_law_ends" = some (.ref (He.ga K "_law_ends")) := He.glo_ok S.KX S.G (S.says.1.fact 33 (f := .glo "_law_ends") rfl)
theorem Sys.g_L_keeps (S : Sys K mg) : mg "_law_keeps" = some (.ref (He.ga K "_law_keeps")) := He.glo_ok S.KX S.G (S.says.1.fact 34 (f := .glo "_law_keeps") rfl)
theorem Sys.g_L_are_values (S : Sys K mg) : mg "_law_are_values" = some (.ref (He.ga K "_law_are_values")) := He.glo_ok S.KX S.G (S.says.1.fact 35 (f := .glo "_law_are_values") rfl)
theorem Sys.g_L_is_good (S : Sys K mg) : mg "_law_is_good" = some (.ref (He.ga K "_law_is_good")) := He.glo_ok S.KX S.G (S.says.1.fact 36 (f := .glo "_law_is_good") rfl)
theorem Sys.g_L_table (S : Sys K mg) : mg "_law_table" = some (.ref (He.ga K "_law_table")) := He.glo_ok S.KX S.G (S.says.1.fact 37 (f := .glo "_law_table") rfl)
theorem Sys.g_L_has (S : Sys K mg) : mg "_law_has" = some (.ref (He.ga K "_law_has")) := He.glo_ok S.KX S.G (S.says.1.fact 38 (f := .glo "_law_has") rfl)
theorem Sys.g_L_frozen (S : Sys K mg) : mg "_law_frozen" = some (.ref (He.ga K "_law_frozen")) := He.glo_ok S.KX S.G (S.says.1.fact 39 (f := .glo "_law_frozen") rfl)
theorem Sys.g_L_some_fill (S : Sys K mg) : mg "_law_some_fill" = some (.ref (He.ga K "_law_some_fill")) := He.glo_ok S.KX S.G (S.says.1.fact 40 (f := .glo "_law_some_fill") rfl)
theorem Sys.g_L_full_shape (S : Sys K mg) : mg "_law_full_shape" = some (.ref (He.ga K "_law_full_shape")) := He.glo_ok S.KX S.G (S.says.1.fact 41 (f := .glo "_law_full_shape") rfl)
theorem Sys.g_L_arcs (S : Sys K mg) : mg "_law_arcs" = some (.ref (He.ga K "_law_arcs")) := He.glo_ok S.KX S.G (S.says.1.fact 42 (f := .glo "_law_arcs") rfl)
theorem Sys.g_L_ring_sum (S : Sys K mg) : mg "_law_ring_sum" = some (.ref (He.ga K "_law_ring_sum")) := He.glo_ok S.KX S.G (S.says.1.fact 43 (f := .glo "_law_ring_sum") rfl)
theorem Sys.g_L_rings (S : Sys K mg) : mg "_law_rings" = some (.ref (He.ga K "_law_rings")) := He.glo_ok S.KX S.G (S.says.1.fact 44 (f := .glo "_law_rings") rfl)
theorem Sys.g_L_goes_on (S : Sys K mg) : mg "_law_goes_on" = some (.ref (He.ga K "_law_goes_on")) := He.glo_ok S.KX S.G (S.says.1.fact 45 (f := .glo "_law_goes_on") rfl)
theorem Sys.g_L_bent_spots (S : Sys K mg) : mg "_law_bent_spots" = some (.ref (He.ga K "_law_bent_spots")) := He.glo_ok S.KX S.G (S.says.1.fact 46 (f := .glo "_law_bent_spots") rfl)
theorem Sys.g_L_with (S : Sys K mg) : mg "_law_with" = some (.ref (He.ga K "_law_with")) := He.glo_ok S.KX S.G (S.says.1.fact 47 (f := .glo "_law_with") rfl)
theorem Sys.g_L_behind (S : Sys K mg) : mg "_law_behind" = some (.ref (He.ga K "_law_behind")) := He.glo_ok S.KX S.G (S.says.1.fact 48 (f := .glo "_law_behind") rfl)
theorem Sys.g_L_some_steps (S : Sys K mg) : mg "_law_some_steps" = some (.ref (He.ga K "_law_some_steps")) := He.glo_ok S.KX S.G (S.says.1.fact 49 (f := .glo "_law_some_steps") rfl)
theorem Sys.g_L_differ (S : Sys K mg) : mg "_law_differ" = some (.ref (He.ga K "_law_differ")) := He.glo_ok S.KX S.G (S.says.1.fact 50 (f := .glo "_law_differ") rfl)
theorem Sys.g_L_are_akin (S : Sys K mg) : mg "_law_are_akin" = some (.ref (He.ga K "_law_are_akin")) := He.glo_ok S.KX S.G (S.says.1.fact 51 (f := .glo "_law_are_akin") rfl)
theorem Sys.g_L_right (S : Sys K mg) : mg "_law_right" = some (.ref (He.ga K "_law_right")) := He.glo_ok S.KX S.G (S.says.1.fact 52 (f := .glo "_law_right") rfl)
theorem Sys.g_law (S : Sys K mg) : mg "law" = some (.ref (He.ga K "law")) := He.glo_ok S.KX S.G (S.says.1.fact 53 (f := .glo "law") rfl)
theorem Sys.g_Form (S : Sys K mg) : mg "Form" = some (.ref (He.ga K "Form")) := He.glo_ok S.KX S.G (S.says.1.fact 54 (f := .glo "Form") rfl)
theorem Sys.g_WORDS (S : Sys K mg) : mg "WORDS" = some (.ref (He.ga K "WORDS")) := He.glo_ok S.KX S.G (S.says.1.fact 55 (f := .glo "WORDS") rfl)
theorem Sys.n_isinstance (S : Sys K mg) : mg "isinstance" = none := He.free_ok S.KX S.G (S.says.1.fact 56 (f := .free "isinstance") rfl)
theorem Sys.n_int (S : Sys K mg) : mg "int" = none := He.free_ok S.KX S.G (S.says.1.fact 57 (f := .free "int") rfl)
theorem Sys.n_bool (S : Sys K mg) : mg "bool" = none := He.free_ok S.KX S.G (S.says.1.fact 58 (f := .free "bool") rfl)
theorem Sys.n_str (S : Sys K mg) : mg "str" = none := He.free_ok S.KX S.G (S.says.1.fact 59 (f := .free "str") rfl)
theorem Sys.n_tuple (S : Sys K mg) : mg "tuple" = none := He.free_ok S.KX S.G (S.says.1.fact 60 (f := .free "tuple") rfl)
theorem Sys.n_list (S : Sys K mg) : mg "list" = none := He.free_ok S.KX S.G (S.says.1.fact 61 (f := .free "list") rfl)
theorem Sys.n_len (S : Sys K mg) : mg "len" = none := He.free_ok S.KX S.G (S.says.1.fact 62 (f := .free "len") rfl)
theorem Sys.n_all (S : Sys K mg) : mg "all" = none := He.free_ok S.KX S.G (S.says.1.fact 63 (f := .free "all") rfl)
theorem Sys.n_sum (S : Sys K mg) : mg "sum" = none := He.free_ok S.KX S.G (S.says.1.fact 64 (f := .free "sum") rfl)
theorem Sys.n_range (S : Sys K mg) : mg "range" = none := He.free_ok S.KX S.G (S.says.1.fact 65 (f := .free "range") rfl)
theorem Sys.n_enumerate (S : Sys K mg) : mg "enumerate" = none := He.free_ok S.KX S.G (S.says.1.fact 66 (f := .free "enumerate") rfl)
theorem Sys.n_abs (S : Sys K mg) : mg "abs" = none := He.free_ok S.KX S.G (S.says.1.fact 67 (f := .free "abs") rfl)
theorem Sys.n_divmod (S : Sys K mg) : mg "divmod" = none := He.free_ok S.KX S.G (S.says.1.fact 68 (f := .free "divmod") rfl)
theorem Sys.n_max (S : Sys K mg) : mg "max" = none := He.free_ok S.KX S.G (S.says.1.fact 69 (f := .free "max") rfl)
theorem Sys.n_min (S : Sys K mg) : mg "min" = none := He.free_ok S.KX S.G (S.says.1.fact 70 (f := .free "min") rfl)
theorem Sys.n_set (S : Sys K mg) : mg "set" = none := He.free_ok S.KX S.G (S.says.1.fact 71 (f := .free "set") rfl)
theorem Sys.n_dict (S : Sys K mg) : mg "dict" = none := He.free_ok S.KX S.G (S.says.1.fact 72 (f := .free "dict") rfl)
theorem Sys.n_zip (S : Sys K mg) : mg "zip" = none := He.free_ok S.KX S.G (S.says.1.fact 73 (f := .free "zip") rfl)
theorem Sys.n_repr (S : Sys K mg) : mg "repr" = none := He.free_ok S.KX S.G (S.says.1.fact 74 (f := .free "repr") rfl)
theorem Sys.i_MOST_VALUE (S : Sys K mg) : ∃ u, mg "MOST_VALUE" = some u ∧ RelV (.int 1000000000) u := relI (He.int_ok S.KX S.G (S.says.1.fact 75 (f := .int "MOST_VALUE" 1000000000) rfl))
theorem Sys.i_MOST_BOUND (S : Sys K mg) : ∃ u, mg "MOST_BOUND" = some u ∧ RelV (.int 1000) u := relI (He.int_ok S.KX S.G (S.says.1.fact 76 (f := .int "MOST_BOUND" 1000) rfl))
theorem Sys.i_MOST_NAME (S : Sys K mg) : ∃ u, mg "MOST_NAME" = some u ∧ RelV (.int 8) u := relI (He.int_ok S.KX S.G (S.says.1.fact 77 (f := .int "MOST_NAME" 8) rfl))
theorem Sys.i_MOST_FIELDS (S : Sys K mg) : ∃ u, mg "MOST_FIELDS" = some u ∧ RelV (.int 5) u := relI (He.int_ok S.KX S.G (S.says.1.fact 78 (f := .int "MOST_FIELDS" 5) rfl))
theorem Sys.i_MOST_RULES (S : Sys K mg) : ∃ u, mg "MOST_RULES" = some u ∧ RelV (.int 30) u := relI (He.int_ok S.KX S.G (S.says.1.fact 79 (f := .int "MOST_RULES" 30) rfl))
theorem Sys.t_LETTERS (S : Sys K mg) : ∃ u, mg "LETTERS" = some u ∧ RelV (.str "abcdefghijklmnopqrstuvwxyz") u := relS_ (He.str_ok S.KX S.G (S.says.1.fact 80 (f := .str "LETTERS" "abcdefghijklmnopqrstuvwxyz") rfl))
theorem Sys.t_SIGNS (S : Sys K mg) : ∃ u, mg "SIGNS" = some u ∧ RelV (.str "0123456789") u := relS_ (He.str_ok S.KX S.G (S.says.1.fact 81 (f := .str "SIGNS" "0123456789") rfl))
theorem Sys.clF (S : Sys K mg) : Cls K (He.ga K "Form") := He.cls_ok (S.says.1.fact 82 (f := .cls "Form") rfl)
theorem Sys.mkF (S : Sys K mg) : Mk K (He.ga K "Form") (He.ma K (He.ga K "Form") "__init__") := He.mkr_ok (S.says.1.fact 83 (f := .mkr "Form") rfl)
theorem Sys.no_fields (S : Sys K mg) : NoAttr K (He.ga K "Form") "fields" := He.noat_ok (S.says.1.fact 84 (f := .noat "Form" "fields") rfl)
theorem Sys.no_rules (S : Sys K mg) : NoAttr K (He.ga K "Form") "rules" := He.noat_ok (S.says.1.fact 85 (f := .noat "Form" "rules") rfl)
theorem Sys.no_table (S : Sys K mg) : NoAttr K (He.ga K "Form") "table" := He.noat_ok (S.says.1.fact 86 (f := .noat "Form" "table") rfl)
theorem Sys.me___len__ (S : Sys K mg) : Meth K (He.ga K "Form") "__len__" (He.ma K (He.ga K "Form") "__len__") := He.meth_ok (S.says.1.fact 87 (f := .meth "Form" "__len__") rfl)
theorem Sys.me_ends_of (S : Sys K mg) : Meth K (He.ga K "Form") "ends_of" (He.ma K (He.ga K "Form") "ends_of") := He.meth_ok (S.says.1.fact 88 (f := .meth "Form" "ends_of") rfl)
theorem Sys.me_own_table (S : Sys K mg) : Meth K (He.ga K "Form") "own_table" (He.ma K (He.ga K "Form") "own_table") := He.meth_ok (S.says.1.fact 89 (f := .meth "Form" "own_table") rfl)
theorem Sys.me_keeps (S : Sys K mg) : Meth K (He.ga K "Form") "keeps" (He.ma K (He.ga K "Form") "keeps") := He.meth_ok (S.says.1.fact 90 (f := .meth "Form" "keeps") rfl)
theorem Sys.me_broken (S : Sys K mg) : Meth K (He.ga K "Form") "broken" (He.ma K (He.ga K "Form") "broken") := He.meth_ok (S.says.1.fact 91 (f := .meth "Form" "broken") rfl)
theorem Sys.f_D_empty_table (S : Sys K mg) : ∃ fd, FunD K "empty_table" "empty_table" (defArgs s_empty_table) (defBody s_empty_table) (defScope s_empty_table) [] [] (He.ga K "empty_table") fd := S.says.1.def_ 0 (d := D_empty_table) rfl
theorem Sys.f_D_put (S : Sys K mg) : ∃ fd, FunD K "put" "put" (defArgs s_put) (defBody s_put) (defScope s_put) [] [] (He.ga K "put") fd := S.says.1.def_ 1 (d := D_put) rfl
theorem Sys.f_D_closed (S : Sys K mg) : ∃ fd, FunD K "closed" "closed" (defArgs s_closed) (defBody s_closed) (defScope s_closed) [] [] (He.ga K "closed") fd := S.says.1.def_ 2 (d := D_closed) rfl
theorem Sys.f_D_is_integer (S : Sys K mg) : ∃ fd, FunD K "is_integer" "is_integer" (defArgs s_is_integer) (defBody s_is_integer) (defScope s_is_integer) [] [] (He.ga K "is_integer") fd := S.says.1.def_ 3 (d := D_is_integer) rfl
theorem Sys.f_D_is_between (S : Sys K mg) : ∃ fd, FunD K "is_between" "is_between" (defArgs s_is_between) (defBody s_is_between) (defScope s_is_between) [] [] (He.ga K "is_between") fd := S.says.1.def_ 4 (d := D_is_between) rfl
theorem Sys.f_D_is_name (S : Sys K mg) : ∃ fd, FunD K "is_name" "is_name" (defArgs s_is_name) (defBody s_is_name) (defScope s_is_name) [] [] (He.ga K "is_name") fd := S.says.1.def_ 5 (d := D_is_name) rfl
theorem Sys.f_D_are_values (S : Sys K mg) : ∃ fd, FunD K "are_values" "are_values" (defArgs s_are_values) (defBody s_are_values) (defScope s_are_values) [] [] (He.ga K "are_values") fd := S.says.1.def_ 6 (d := D_are_values) rfl
theorem Sys.f_D_integer_in (S : Sys K mg) : ∃ fd, FunD K "integer_in" "integer_in" (defArgs s_integer_in) (defBody s_integer_in) (defScope s_integer_in) [] [] (He.ga K "integer_in") fd := S.says.1.def_ 7 (d := D_integer_in) rfl
theorem Sys.f_D_is_rule (S : Sys K mg) : ∃ fd, FunD K "is_rule" "is_rule" (defArgs s_is_rule) (defBody s_is_rule) (defScope s_is_rule) [] [] (He.ga K "is_rule") fd := S.says.1.def_ 8 (d := D_is_rule) rfl
theorem Sys.f_D_wrong_field (S : Sys K mg) : ∃ fd, FunD K "wrong_field" "wrong_field" (defArgs s_wrong_field) (defBody s_wrong_field) (defScope s_wrong_field) [] [] (He.ga K "wrong_field") fd := S.says.1.def_ 9 (d := D_wrong_field) rfl
theorem Sys.f_D_wrong_rule (S : Sys K mg) : ∃ fd, FunD K "wrong_rule" "wrong_rule" (defArgs s_wrong_rule) (defBody s_wrong_rule) (defScope s_wrong_rule) [] [] (He.ga K "wrong_rule") fd := S.says.1.def_ 10 (d := D_wrong_rule) rfl
theorem Sys.f_D_rule_text (S : Sys K mg) : ∃ fd, FunD K "rule_text" "rule_text" (defArgs s_rule_text) (defBody s_rule_text) (defScope s_rule_text) [] [] (He.ga K "rule_text") fd := S.says.1.def_ 11 (d := D_rule_text) rfl
theorem Sys.f_D_form_text (S : Sys K mg) : ∃ fd, FunD K "form_text" "form_text" (defArgs s_form_text) (defBody s_form_text) (defScope s_form_text) [] [] (He.ga K "form_text") fd := S.says.1.def_ 12 (d := D_form_text) rfl
theorem Sys.f_D_rule_in (S : Sys K mg) : ∃ fd, FunD K "rule_in" "rule_in" (defArgs s_rule_in) (defBody s_rule_in) (defScope s_rule_in) [] [] (He.ga K "rule_in") fd := S.says.1.def_ 13 (d := D_rule_in) rfl
theorem Sys.f_D_form_in (S : Sys K mg) : ∃ fd, FunD K "form_in" "form_in" (defArgs s_form_in) (defBody s_form_in) (defScope s_form_in) [] [] (He.ga K "form_in") fd := S.says.1.def_ 14 (d := D_form_in) rfl
theorem Sys.f_D_check_fields (S : Sys K mg) : ∃ fd, FunD K "check_fields" "check_fields" (defArgs s_check_fields) (defBody s_check_fields) (defScope s_check_fields) [] [] (He.ga K "check_fields") fd := S.says.1.def_ 15 (d := D_check_fields) rfl
theorem Sys.f_D_is_good_filling (S : Sys K mg) : ∃ fd, FunD K "is_good_filling" "is_good_filling" (defArgs s_is_good_filling) (defBody s_is_good_filling) (defScope s_is_good_filling) [] [] (He.ga K "is_good_filling") fd := S.says.1.def_ 16 (d := D_is_good_filling) rfl
theorem Sys.f_D_arcs_of (S : Sys K mg) : ∃ fd, FunD K "arcs_of" "arcs_of" (defArgs s_arcs_of) (defBody s_arcs_of) (defScope s_arcs_of) [] [] (He.ga K "arcs_of") fd := S.says.1.def_ 17 (d := D_arcs_of) rfl
theorem Sys.f_D_are_joined (S : Sys K mg) : ∃ fd, FunD K "are_joined" "are_joined" (defArgs s_are_joined) (defBody s_are_joined) (defScope s_are_joined) [] [] (He.ga K "are_joined") fd := S.says.1.def_ 18 (d := D_are_joined) rfl
theorem Sys.f_D_ring_in (S : Sys K mg) : ∃ fd, FunD K "ring_in" "ring_in" (defArgs s_ring_in) (defBody s_ring_in) (defScope s_ring_in) [] [] (He.ga K "ring_in") fd := S.says.1.def_ 19 (d := D_ring_in) rfl
theorem Sys.f_D_sum_of (S : Sys K mg) : ∃ fd, FunD K "sum_of" "sum_of" (defArgs s_sum_of) (defBody s_sum_of) (defScope s_sum_of) [] [] (He.ga K "sum_of") fd := S.says.1.def_ 20 (d := D_sum_of) rfl
theorem Sys.f_D_lies_on (S : Sys K mg) : ∃ fd, FunD K "lies_on" "lies_on" (defArgs s_lies_on) (defBody s_lies_on) (defScope s_lies_on) [] [] (He.ga K "lies_on") fd := S.says.1.def_ 21 (d := D_lies_on) rfl
theorem Sys.f_D_is_field (S : Sys K mg) : ∃ fd, FunD K "is_field" "is_field" (defArgs s_is_field) (defBody s_is_field) (defScope s_is_field) [] [] (He.ga K "is_field") fd := S.says.1.def_ 22 (d := D_is_field) rfl
theorem Sys.f_D_apart_shown (S : Sys K mg) : ∃ fd, FunD K "apart_shown" "apart_shown" (defArgs s_apart_shown) (defBody s_apart_shown) (defScope s_apart_shown) [] [] (He.ga K "apart_shown") fd := S.says.1.def_ 23 (d := D_apart_shown) rfl
theorem Sys.f_D_pair_shown (S : Sys K mg) : ∃ fd, FunD K "pair_shown" "pair_shown" (defArgs s_pair_shown) (defBody s_pair_shown) (defScope s_pair_shown) [] [] (He.ga K "pair_shown") fd := S.says.1.def_ 24 (d := D_pair_shown) rfl
theorem Sys.f_D_holds_claim (S : Sys K mg) : ∃ fd, FunD K "holds_claim" "holds_claim" (defArgs s_holds_claim) (defBody s_holds_claim) (defScope s_holds_claim) [] [] (He.ga K "holds_claim") fd := S.says.1.def_ 25 (d := D_holds_claim) rfl
theorem Sys.f_D_L_flask (S : Sys K mg) : ∃ fd, FunD K "_law_flask" "_law_flask" (defArgs s_L_flask) (defBody s_L_flask) (defScope s_L_flask) [] [] (He.ga K "_law_flask") fd := S.says.1.def_ 26 (d := D_L_flask) rfl
theorem Sys.f_D_L_drop (S : Sys K mg) : ∃ fd, FunD K "_law_drop" "_law_drop" (defArgs s_L_drop) (defBody s_L_drop) (defScope s_L_drop) [] [] (He.ga K "_law_drop") fd := S.says.1.def_ 27 (d := D_L_drop) rfl
theorem Sys.f_D_L_of (S : Sys K mg) : ∃ fd, FunD K "_law_of" "_law_of" (defArgs s_L_of) (defBody s_L_of) (defScope s_L_of) [] [] (He.ga K "_law_of") fd := S.says.1.def_ 28 (d := D_L_of) rfl
theorem Sys.f_D_L_tags (S : Sys K mg) : ∃ fd, FunD K "_law_tags" "_law_tags" (defArgs s_L_tags) (defBody s_L_tags) (defScope s_L_tags) [] [] (He.ga K "_law_tags") fd := S.says.1.def_ 29 (d := D_L_tags) rfl
theorem Sys.f_D_L_bond (S : Sys K mg) : ∃ fd, FunD K "_law_bond" "_law_bond" (defArgs s_L_bond) (defBody s_L_bond) (defScope s_L_bond) [] [] (He.ga K "_law_bond") fd := S.says.1.def_ 30 (d := D_L_bond) rfl
theorem Sys.f_D_L_shape (S : Sys K mg) : ∃ fd, FunD K "_law_shape" "_law_shape" (defArgs s_L_shape) (defBody s_L_shape) (defScope s_L_shape) [] [] (He.ga K "_law_shape") fd := S.says.1.def_ 31 (d := D_L_shape) rfl
theorem Sys.f_D_L_page (S : Sys K mg) : ∃ fd, FunD K "_law_page" "_law_page" (defArgs s_L_page) (defBody s_L_page) (defScope s_L_page) [] [] (He.ga K "_law_page") fd := S.says.1.def_ 32 (d := D_L_page) rfl
theorem Sys.f_D_L_ends (S : Sys K mg) : ∃ fd, FunD K "_law_ends" "_law_ends" (defArgs s_L_ends) (defBody s_L_ends) (defScope s_L_ends) [] [] (He.ga K "_law_ends") fd := S.says.1.def_ 33 (d := D_L_ends) rfl
theorem Sys.f_D_L_keeps (S : Sys K mg) : ∃ fd, FunD K "_law_keeps" "_law_keeps" (defArgs s_L_keeps) (defBody s_L_keeps) (defScope s_L_keeps) [] [] (He.ga K "_law_keeps") fd := S.says.1.def_ 34 (d := D_L_keeps) rfl
theorem Sys.f_D_L_are_values (S : Sys K mg) : ∃ fd, FunD K "_law_are_values" "_law_are_values" (defArgs s_L_are_values) (defBody s_L_are_values) (defScope s_L_are_values) [] [] (He.ga K "_law_are_values") fd := S.says.1.def_ 35 (d := D_L_are_values) rfl
theorem Sys.f_D_L_is_good (S : Sys K mg) : ∃ fd, FunD K "_law_is_good" "_law_is_good" (defArgs s_L_is_good) (defBody s_L_is_good) (defScope s_L_is_good) [] [] (He.ga K "_law_is_good") fd := S.says.1.def_ 36 (d := D_L_is_good) rfl
theorem Sys.f_D_L_table (S : Sys K mg) : ∃ fd, FunD K "_law_table" "_law_table" (defArgs s_L_table) (defBody s_L_table) (defScope s_L_table) [] [] (He.ga K "_law_table") fd := S.says.1.def_ 37 (d := D_L_table) rfl
theorem Sys.f_D_L_has (S : Sys K mg) : ∃ fd, FunD K "_law_has" "_law_has" (defArgs s_L_has) (defBody s_L_has) (defScope s_L_has) [] [] (He.ga K "_law_has") fd := S.says.1.def_ 38 (d := D_L_has) rfl
theorem Sys.f_D_L_frozen (S : Sys K mg) : ∃ fd, FunD K "_law_frozen" "_law_frozen" (defArgs s_L_frozen) (defBody s_L_frozen) (defScope s_L_frozen) [] [] (He.ga K "_law_frozen") fd := S.says.1.def_ 39 (d := D_L_frozen) rfl
theorem Sys.f_D_L_some_fill (S : Sys K mg) : ∃ fd, FunD K "_law_some_fill" "_law_some_fill" (defArgs s_L_some_fill) (defBody s_L_some_fill) (defScope s_L_some_fill) [] [] (He.ga K "_law_some_fill") fd := S.says.1.def_ 40 (d := D_L_some_fill) rfl
theorem Sys.f_D_L_full_shape (S : Sys K mg) : ∃ fd, FunD K "_law_full_shape" "_law_full_shape" (defArgs s_L_full_shape) (defBody s_L_full_shape) (defScope s_L_full_shape) [] [] (He.ga K "_law_full_shape") fd := S.says.1.def_ 41 (d := D_L_full_shape) rfl
theorem Sys.f_D_L_arcs (S : Sys K mg) : ∃ fd, FunD K "_law_arcs" "_law_arcs" (defArgs s_L_arcs) (defBody s_L_arcs) (defScope s_L_arcs) [] [] (He.ga K "_law_arcs") fd := S.says.1.def_ 42 (d := D_L_arcs) rfl
theorem Sys.f_D_L_ring_sum (S : Sys K mg) : ∃ fd, FunD K "_law_ring_sum" "_law_ring_sum" (defArgs s_L_ring_sum) (defBody s_L_ring_sum) (defScope s_L_ring_sum) [] [] (He.ga K "_law_ring_sum") fd := S.says.1.def_ 43 (d := D_L_ring_sum) rfl
theorem Sys.f_D_L_rings (S : Sys K mg) : ∃ fd, FunD K "_law_rings" "_law_rings" (defArgs s_L_rings) (defBody s_L_rings) (defScope s_L_rings) [] [] (He.ga K "_law_rings") fd := S.says.1.def_ 44 (d := D_L_rings) rfl
theorem Sys.f_D_L_goes_on (S : Sys K mg) : ∃ fd, FunD K "_law_goes_on" "_law_goes_on" (defArgs s_L_goes_on) (defBody s_L_goes_on) (defScope s_L_goes_on) [] [] (He.ga K "_law_goes_on") fd := S.says.1.def_ 45 (d := D_L_goes_on) rfl
theorem Sys.f_D_L_bent_spots (S : Sys K mg) : ∃ fd, FunD K "_law_bent_spots" "_law_bent_spots" (defArgs s_L_bent_spots) (defBody s_L_bent_spots) (defScope s_L_bent_spots) [] [] (He.ga K "_law_bent_spots") fd := S.says.1.def_ 46 (d := D_L_bent_spots) rfl
theorem Sys.f_D_L_with (S : Sys K mg) : ∃ fd, FunD K "_law_with" "_law_with" (defArgs s_L_with) (defBody s_L_with) (defScope s_L_with) [] [] (He.ga K "_law_with") fd := S.says.1.def_ 47 (d := D_L_with) rfl
theorem Sys.f_D_L_behind (S : Sys K mg) : ∃ fd, FunD K "_law_behind" "_law_behind" (defArgs s_L_behind) (defBody s_L_behind) (defScope s_L_behind) [] [] (He.ga K "_law_behind") fd := S.says.1.def_ 48 (d := D_L_behind) rfl
theorem Sys.f_D_L_some_steps (S : Sys K mg) : ∃ fd, FunD K "_law_some_steps" "_law_some_steps" (defArgs s_L_some_steps) (defBody s_L_some_steps) (defScope s_L_some_steps) [] [] (He.ga K "_law_some_steps") fd := S.says.1.def_ 49 (d := D_L_some_steps) rfl
theorem Sys.f_D_L_differ (S : Sys K mg) : ∃ fd, FunD K "_law_differ" "_law_differ" (defArgs s_L_differ) (defBody s_L_differ) (defScope s_L_differ) [] [] (He.ga K "_law_differ") fd := S.says.1.def_ 50 (d := D_L_differ) rfl
theorem Sys.f_D_L_are_akin (S : Sys K mg) : ∃ fd, FunD K "_law_are_akin" "_law_are_akin" (defArgs s_L_are_akin) (defBody s_L_are_akin) (defScope s_L_are_akin) [] [] (He.ga K "_law_are_akin") fd := S.says.1.def_ 51 (d := D_L_are_akin) rfl
theorem Sys.f_D_L_right (S : Sys K mg) : ∃ fd, FunD K "_law_right" "_law_right" (defArgs s_L_right) (defBody s_L_right) (defScope s_L_right) [] [] (He.ga K "_law_right") fd := S.says.1.def_ 52 (d := D_L_right) rfl
theorem Sys.f_D_law (S : Sys K mg) : ∃ fd, FunD K "law" "law" (defArgs s_law) (defBody s_law) (defScope s_law) [] [] (He.ga K "law") fd := S.says.1.def_ 53 (d := D_law) rfl
theorem Sys.f_DF_init (S : Sys K mg) : ∃ fd, FunD K "__init__" "Form.__init__" (defArgs sF_init) (defBody sF_init) (defScope sF_init) [.ref (He.dflAt ("Form", some "__init__") 0 K)] [] (He.ma K (He.ga K "Form") "__init__") fd := S.says.1.def_ 54 (d := DF_init) rfl
theorem Sys.f_DF_len (S : Sys K mg) : ∃ fd, FunD K "__len__" "Form.__len__" (defArgs sF_len) (defBody sF_len) (defScope sF_len) [] [] (He.ma K (He.ga K "Form") "__len__") fd := S.says.1.def_ 55 (d := DF_len) rfl
theorem Sys.f_DF_ends_of (S : Sys K mg) : ∃ fd, FunD K "ends_of" "Form.ends_of" (defArgs sF_ends_of) (defBody sF_ends_of) (defScope sF_ends_of) [] [] (He.ma K (He.ga K "Form") "ends_of") fd := S.says.1.def_ 56 (d := DF_ends_of) rfl
theorem Sys.f_DF_own_table (S : Sys K mg) : ∃ fd, FunD K "own_table" "Form.own_table" (defArgs sF_own_table) (defBody sF_own_table) (defScope sF_own_table) [] [] (He.ma K (He.ga K "Form") "own_table") fd := S.says.1.def_ 57 (d := DF_own_table) rfl
theorem Sys.f_DF_keeps (S : Sys K mg) : ∃ fd, FunD K "keeps" "Form.keeps" (defArgs sF_keeps) (defBody sF_keeps) (defScope sF_keeps) [] [] (He.ma K (He.ga K "Form") "keeps") fd := S.says.1.def_ 58 (d := DF_keeps) rfl
theorem Sys.f_DF_broken (S : Sys K mg) : ∃ fd, FunD K "broken" "Form.broken" (defArgs sF_broken) (defBody sF_broken) (defScope sF_broken) [] [] (He.ma K (He.ga K "Form") "broken") fd := S.says.1.def_ 59 (d := DF_broken) rfl
theorem Sys.words (S : Sys K mg) (H : Hp) : SqT K H (He.ga K "WORDS") (wordsD.map (He.Dv.v K)) := He.tupB_ok S.says.2 H
end
/-! ### a def by its body -/
section
variable {P : Program} {w : World} {K : Frag} {mg : Str → Option Value} {base : Heap}
/-- what a body is to show -/
abbrev BodyOk (P : Program) (w : World) (K : Frag) (mg : Str → Option Value) (base : Heap) (k : Nat) (qual : Str) (st : Stmt) (N : List Str) (f : Addr) (sp : Sp) : Prop :=
  ∀ (cdv : Value) (A : Around) (outer : List Env) (s : Shared) (H : Hp) (vs : List V) (Q : VK) (E : XK), Room k (A.deeper (envOfC qual (defScope st) s.heap.objs.size f cdv)) → sp vs H Q E →
    ∃ t, PSs (cxOf C8.CX0 P w K mg base N qual (defScope st) f cdv A outer s H E).nox (defBody st) t ∧ t { nx := fun _ H' => Q .non H', rt := Q } (start N vs) H
abbrev BindsOk (x qual : Str) (st : Stmt) (ps : List Str) : Prop :=
  ∀ (kV doc pm : Value) (an : Option Addr) (cdv ct : Value) (us : List Value), us.length = ps.length → bindArgs (fnOf x qual (defArgs st) (defBody st) (defScope st) .none kV doc pm an cdv ct) ⟨us, []⟩ = pure (ps.zip us)
theorem fnD {x qual : Str} {st : Stmt} {N ps : List Str} {k : Nat} {sp : Sp} {f : Addr} {fd : FuncData} {dvs : List V} {kws : List (Str × V)} (F : FunD K x qual (defArgs st) (defBody st) (defScope st) dvs kws f fd) (S : FnScope N ps (defScope st))
    (len : ∀ vs H Q E, sp vs H Q E → vs.length = ps.length) (hb : BodyOk P w K mg base k qual st N f sp) : FnOk P w K mg base C8.CX0 (k + 1) f fd ps sp :=
  F.ok S len fun cdv A outer s H vs Q E hr h => by
    obtain ⟨t, a, b⟩ := hb cdv A outer s H vs Q E hr h
    exact ⟨t, a.nox, b⟩
theorem calD {x : Str} {st : Stmt} {N ps : List Str} {k : Nat} {sp : Sp} {f : Addr} (F : ∃ fd, FunD K x x (defArgs st) (defBody st) (defScope st) [] [] f fd) (hm : mg x = some (.ref f)) (S : FnScope N ps (defScope st)) (b : BindsOk x x st ps)
    (len : ∀ vs H Q E, sp vs H Q E → vs.length = ps.length) (hb : BodyOk P w K mg base k x st N f sp) : C8.Cal P w K mg base (k + 1) x sp [] := by
  obtain ⟨fd, F⟩ := F
  exact ⟨f, fd, ps, [], fnD F S len hb, hm, F.kp, F.bindsN b, .nil⟩
theorem metD {m qual : Str} {C : Addr} {st : Stmt} {N ps : List Str} {k : Nat} {sp : Sp} {f : Addr} (c : Cls K C) (me : Meth K C m f) (F : ∃ fd, FunD K m qual (defArgs st) (defBody st) (defScope st) [] [] f fd) (S : FnScope N ps (defScope st)) (b : BindsOk m qual st ps)
    (len : ∀ vs H Q E, sp vs H Q E → vs.length = ps.length) (hb : BodyOk P w K mg base k qual st N f sp) : C8.Met P w K mg base (k + 1) C m sp [] := by
  obtain ⟨fd, F⟩ := F
  exact ⟨f, fd, ps, [], c, me, fnD F S len hb, F.bindsN b, .nil⟩
end
/-! ### heaps -/
/-- all that was tracked but the list at F is as it was -/
def Kp (F : Addr) (H H' : Hp) : Prop := ∀ b o, H b = some o → b ≠ F → H' b = some o
/-- the draws' list -/
def Fl (H : Hp) (F : Addr) : Prop := ∃ a b c : Int, H F = some (.lst [.int a, .int b, .int c])
structure FK (F : Addr) (H H' : Hp) : Prop where
  fl : Fl H' F
  kp : Kp F H H'
/-- tuples stay -/
def TK (H H' : Hp) : Prop := ∀ b xs, H b = some (.tup xs) → H' b = some (.tup xs)
section
variable {F : Addr} {H H1 H2 H' : Hp}
theorem Same.kp (h : Same H H') : Kp F H H' := fun b o e _ => h b o e
theorem Same.tk (h : Same H H') : TK H H' := fun b _ e => h b _ e
theorem Kp.trans (a : Kp F H H1) (b : Kp F H1 H2) : Kp F H H2 := fun c o e n => b c o (a c o e n) n
theorem TK.trans (a : TK H H1) (b : TK H1 H2) : TK H H2 := fun c o e => b c o (a c o e)
theorem TK.refl (H : Hp) : TK H H := fun _ _ e => e
theorem Fl.same (f : Fl H F) (h : Same H H') : Fl H' F := let ⟨a, b, c, e⟩ := f; ⟨a, b, c, h _ _ e⟩
theorem FK.refl (f : Fl H F) : FK F H H := ⟨f, fun _ _ e _ => e⟩
theorem FK.trans (a : FK F H H1) (b : FK F H1 H2) : FK F H H2 := ⟨b.fl, a.kp.trans b.kp⟩
theorem FK.same (a : FK F H H1) (b : Same H1 H2) : FK F H H2 := ⟨a.fl.same b, a.kp.trans (Same.kp b)⟩
theorem Same.fk (f : Fl H F) (b : Same H H1) : FK F H H1 := ⟨f.same b, Same.kp b⟩
theorem Fl.ne_tup {p : Addr} {xs : List V} (f : Fl H F) (e : H p = some (.tup xs)) : p ≠ F := by
  obtain ⟨a, b, c, e2⟩ := f
  exact ne_of e e2 (by intro z; cases z)
theorem FK.tk (a : FK F H H1) (f : Fl H F) : TK H H1 := fun b xs e => a.kp b _ e (f.ne_tup e)
theorem same_new {p : Addr} {o : HO} (h : H p = none) : Same H (upd H p o) := fun b x e => by
  rw [upd_ne (ne_of_none e h)]
  exact e
theorem same_new2 {p : Addr} {o : HO} (s : Same H H1) (h : H1 p = none) : Same H (upd H1 p o) := s.trans (same_new h)
/-- an object that was not there at H may change -/
theorem same_mut {p : Addr} {o : HO} (s : Same H H1) (h : H p = none) : Same H (upd H1 p o) := fun b x e => by
  rw [upd_ne (ne_of_none e h)]
  exact s b x e
theorem kp_upd {o : HO} (H : Hp) : Kp F H (upd H F o) := fun b x e n => by
  rw [upd_ne n]
  exact e
end
theorem sz {n : Nat} (h : n ≤ 1000) : n ≤ sizeLine := Nat.le_trans h (by decide)
end K59
/-! K59Run -/
set_option Elab.async false
set_option linter.all false
set_option maxRecDepth 100000
set_option maxHeartbeats 0
namespace K59
open PySem PySem.W PySem.Calls PySem.Spec PyProof.Rows L2
def loose0 : List PySem.Str := ["__name__", "ShapeError", "InvalidFields", "InvalidRules", "InvalidText", "QuestionError", "UnknownField", "MOST_VALUE", "MOST_BOUND", "MOST_NAME", "MOST_FIELDS", "MOST_RULES", "MOST_ROW", "empty_table", "put", "closed", "LETTERS", "SIGNS", "is_integer", "is_between", "is_name", "are_values", "integer_in", "is_rule", "wrong_field", "wrong_rule", "rule_text", "form_text", "rule_in", "form_in"]
def loose1 : List PySem.Str := ["check_fields", "Form", "is_good_filling", "typed", "pairs_ahead", "different", "keeps_pairs", "is_knot", "WORDS", "arcs_of", "are_joined", "ring_in", "sum_of", "lies_on", "is_field", "empty_shown", "is_pair", "frozen_shown", "implied_shown", "typed_by", "row_shown", "apart_shown", "are_akin", "order_shown", "knot_shown", "pair_shown", "holds_claim", "_law_flask", "_law_drop", "_law_of"]
def loose2 : List PySem.Str := ["_law_tags", "_law_bond", "_law_shape", "_law_page", "_law_ends", "_law_keeps", "_law_are_values", "_law_is_good", "_law_table", "_law_has", "_law_frozen", "_law_some_fill", "_law_full_shape", "_law_arcs", "_law_ring_sum", "_law_rings", "_law_goes_on", "_law_bent_spots", "_law_with", "_law_behind", "_law_some_steps", "_law_differ", "_law_are_akin", "_law_right"]
def loose : List PySem.Str := loose0 ++ loose1 ++ loose2
abbrev R : OpenRow := OpenLaw.row PySem.Challenge.rw_typedonce_k59_whole_apart_claimed
abbrev qv : Program := view R.prog [91]
noncomputable def endS (w : World) (os : OsState) : Option SharedT := HandSHeadRun.endF (HandSHeadRun.stepQ (HandSHeadRun.denQ HandSHeadRun.tabQ) R.prog w) 12000 R.prog w os
abbrev hk : Hook := hookM fa fn ex
def ob (s : SharedT) : AlM := obM fa fn ex (HandSHeadRun.getT s)
theorem ob_eq (s : SharedT) : ob s = hk.obs s.abs := by
  have e : HandSHeadRun.getT s = s.abs.heap.get? := funext (HandSHeadRun.getT_eq s)
  show obM fa fn ex (HandSHeadRun.getT s) = obM fa fn ex s.abs.heap.get?
  rw [e]
theorem run1 (w : World) (os : OsState) : ((endS w os).map fun s => (HandSHeadRun.looksF R.prog (boot_heap w.params) s.abs, HandSHeadRun.seenQ qv loose (importedModules R.prog.main.body) (fun s => xlAt qv [] s && recOk R.toRowW.records s) s.abs)) = some (true, openGood qv loose) := by kernel_rfl
theorem run2 (w : World) (os : OsState) : ((endS w os).map ob) = some (valM fn) := by kernel_rfl
end K59
/-! K59Base -/
set_option Elab.async false
set_option linter.all false
set_option maxRecDepth 100000
set_option maxHeartbeats 4000000
namespace K59
open PySem PySem.W PySem.Calls PySem.Spec PyProof.Rows L2
/-! ### data of any kind, their kinds -/
def tyN : PyData → String
  | .none => "NoneType"
  | .bool _ => "bool"
  | .int _ => "int"
  | .str _ => "str"
  | .list _ => "list"
  | .tuple _ => "tuple"
  | .dict _ => "dict"
def isIntB : PyData → Bool
  | .int _ => true
  | .bool _ => true
  | _ => false
def isBoolB : PyData → Bool
  | .bool _ => true
  | _ => false
def intD : PyData → Bool
  | .int _ => true
  | _ => false
def isStrB : PyData → Bool
  | .str _ => true
  | _ => false
def isTupB : PyData → Bool
  | .tuple _ => true
  | _ => false
theorem intD_eq (d : PyData) : intD d = (isIntB d && !isBoolB d) := by cases d <;> rfl
theorem kit_int : ∀ d : PyData, kitB (tyN d) "int" = some (isIntB d)
  | .none => show kitB "NoneType" "int" = some false by decide +kernel
  | .bool _ => show kitB "bool" "int" = some true by decide +kernel
  | .int _ => show kitB "int" "int" = some true by decide +kernel
  | .str _ => show kitB "str" "int" = some false by decide +kernel
  | .list _ => show kitB "list" "int" = some false by decide +kernel
  | .tuple _ => show kitB "tuple" "int" = some false by decide +kernel
  | .dict _ => show kitB "dict" "int" = some false by decide +kernel
theorem kit_bool : ∀ d : PyData, kitB (tyN d) "bool" = some (isBoolB d)
  | .none => show kitB "NoneType" "bool" = some false by decide +kernel
  | .bool _ => show kitB "bool" "bool" = some true by decide +kernel
  | .int _ => show kitB "int" "bool" = some false by decide +kernel
  | .str _ => show kitB "str" "bool" = some false by decide +kernel
  | .list _ => show kitB "list" "bool" = some false by decide +kernel
  | .tuple _ => show kitB "tuple" "bool" = some false by decide +kernel
  | .dict _ => show kitB "dict" "bool" = some false by decide +kernel
theorem kit_str : ∀ d : PyData, kitB (tyN d) "str" = some (isStrB d)
  | .none => show kitB "NoneType" "str" = some false by decide +kernel
  | .bool _ => show kitB "bool" "str" = some false by decide +kernel
  | .int _ => show kitB "int" "str" = some false by decide +kernel
  | .str _ => show kitB "str" "str" = some true by decide +kernel
  | .list _ => show kitB "list" "str" = some false by decide +kernel
  | .tuple _ => show kitB "tuple" "str" = some false by decide +kernel
  | .dict _ => show kitB "dict" "str" = some false by decide +kernel
theorem kit_tuple : ∀ d : PyData, kitB (tyN d) "tuple" = some (isTupB d)
  | .none => show kitB "NoneType" "tuple" = some false by decide +kernel
  | .bool _ => show kitB "bool" "tuple" = some false by decide +kernel
  | .int _ => show kitB "int" "tuple" = some false by decide +kernel
  | .str _ => show kitB "str" "tuple" = some false by decide +kernel
  | .list _ => show kitB "list" "tuple" = some false by decide +kernel
  | .tuple _ => show kitB "tuple" "tuple" = some true by decide +kernel
  | .dict _ => show kitB "dict" "tuple" = some false by decide +kernel
section
variable {K : Frag} {H H' : Hp} {v : V} {d : PyData} {Q : VK}
theorem ty_dp (h : Dp K H v d) : TyX K H v (.type (tyN d)) := by
  cases h with
  | non => exact .base .non
  | bl b => exact .base (.bl b)
  | int i => exact .base (.int i)
  | str x => exact .base (.str x)
  | lst hs _ =>
    rcases hs with (h | ⟨o, h⟩) | ⟨o, its, n, hk, hc, _⟩
    · exact .base (.lst h)
    · exact .base (.frz h)
    · exact .kList hk hc
  | tup hs _ =>
    rcases hs with (h | ⟨o, h⟩) | ⟨o, its, n, hk, hc, _⟩
    · exact .base (.tup h)
    · exact .fTuple h
    · exact .kTuple hk hc
theorem isi_of {T : String} {b : Bool} (h : Dp K H v d) (e : kitB (tyN d) T = some b) (q : Q (.bl b) H) : rIsi K [v, .ty T] H Q := ⟨v, .ty T, .type (tyN d), .type T, b, rfl, .ty T, ty_dp h, kit_ty e, q⟩
end
/-! ### data as it lies: plain tuples and lists (the lists at addresses that N lets) -/
mutual
inductive Da (N : Addr → Prop) (H : Hp) : V → PyData → Prop
  | non : Da N H .non .none
  | bl (b : Bool) : Da N H (.bl b) (.bool b)
  | int (i : Int) : Da N H (.int i) (.int i)
  | str (x : Str) : Da N H (.str x) (.str x)
  | lst {a : Addr} {xs : List V} {ds : List PyData} : H a = some (.lst xs) → N a → DaAll N H xs ds → Da N H (.ref a) (.list ds)
  | tup {a : Addr} {xs : List V} {ds : List PyData} : H a = some (.tup xs) → DaAll N H xs ds → Da N H (.ref a) (.tuple ds)
inductive DaAll (N : Addr → Prop) (H : Hp) : List V → List PyData → Prop
  | nil : DaAll N H [] []
  | cons {v : V} {vs : List V} {d : PyData} {ds : List PyData} : Da N H v d → DaAll N H vs ds → DaAll N H (v :: vs) (d :: ds)
end
section
variable {K : Frag} {N : Addr → Prop} {H H' : Hp}
mutual
theorem Da.dp {v : V} {d : PyData} (h : Da N H v d) : Dp K H v d := by
  cases h with
  | non => exact .non
  | bl b => exact .bl b
  | int i => exact .int i
  | str x => exact .str x
  | lst h _ a => exact .lst (.inl (.inl h)) a.dp
  | tup h a => exact .tup (.inl (.inl h)) a.dp
theorem DaAll.dp {v : List V} {d : List PyData} (h : DaAll N H v d) : DpAll K H v d := by
  cases h with
  | nil => exact .nil
  | cons h a => exact .cons h.dp a.dp
end
mutual
theorem Da.mono {v : V} {d : PyData} (h : Da N H v d) (k : ∀ b o, H b = some o → (∀ xs, o = .lst xs → N b) → H' b = some o) : Da N H' v d := by
  cases h with
  | non => exact .non
  | bl b => exact .bl b
  | int i => exact .int i
  | str x => exact .str x
  | lst h n a => exact .lst (k _ _ h fun _ _ => n) n (a.mono k)
  | tup h a => exact .tup (k _ _ h fun _ z => by cases z) (a.mono k)
theorem DaAll.mono {v : List V} {d : List PyData} (h : DaAll N H v d) (k : ∀ b o, H b = some o → (∀ xs, o = .lst xs → N b) → H' b = some o) : DaAll N H' v d := by
  cases h with
  | nil => exact .nil
  | cons h a => exact .cons (h.mono k) (a.mono k)
end
theorem Da.same {v : V} {d : PyData} (h : Da N H v d) (s : Same H H') : Da N H' v d := h.mono fun b o e _ => s b o e
theorem DaAll.same {v : List V} {d : List PyData} (h : DaAll N H v d) (s : Same H H') : DaAll N H' v d := h.mono fun b o e _ => s b o e
theorem Da.fk {F : Addr} {v : V} {d : PyData} (h : Da (· ≠ F) H v d) (s : FK F H H') (fl : Fl H F) : Da (· ≠ F) H' v d := h.mono fun b o e n => s.kp b o e (by
  obtain ⟨x, y, z, ef⟩ := fl
  intro q
  subst q
  rw [ef] at e
  exact n _ (Option.some.inj e).symm rfl)
theorem DaAll.len {v : List V} {d : List PyData} (h : DaAll N H v d) : v.length = d.length := by
  induction d generalizing v with
  | nil => cases h; rfl
  | cons d ds ih =>
    cases h with
    | cons h a => rw [List.length_cons, List.length_cons, ih a]
theorem DaAll.get {v : List V} {d : List PyData} (h : DaAll N H v d) {i : Nat} {x : V} (e : v[i]? = some x) : ∃ y, d[i]? = some y ∧ Da N H x y := by
  induction d generalizing v i with
  | nil =>
    cases h
    simp at e
  | cons d ds ih =>
    cases h with
    | cons h a =>
      cases i with
      | zero =>
        simp at e
        subst e
        exact ⟨d, rfl, h⟩
      | succ i =>
        obtain ⟨y, h1, h2⟩ := ih a (by simpa using e)
        exact ⟨y, by simpa using h1, h2⟩
theorem DaAll.ints {ns : List Int} : DaAll N H (ns.map V.int) (ns.map PyData.int) := by
  induction ns with
  | nil => exact .nil
  | cons n ns ih => exact .cons (.int n) ih
theorem Da.tupInv {v : V} {ds : List PyData} (h : Da N H v (.tuple ds)) : ∃ a xs, v = .ref a ∧ H a = some (.tup xs) ∧ DaAll N H xs ds := by
  cases h with
  | tup h a => exact ⟨_, _, rfl, h, a⟩
end
section
variable {K : Frag} {H H' : Hp} {v : V} {d : PyData} {Q : VK}
theorem isi_int {N : Addr → Prop} (h : Da N H v d) (q : Q (.bl (isIntB d)) H) : rIsi K [v, .ty "int"] H Q := isi_of h.dp (kit_int d) q
theorem isi_bool {N : Addr → Prop} (h : Da N H v d) (q : Q (.bl (isBoolB d)) H) : rIsi K [v, .ty "bool"] H Q := isi_of h.dp (kit_bool d) q
theorem isi_str {N : Addr → Prop} (h : Da N H v d) (q : Q (.bl (isStrB d)) H) : rIsi K [v, .ty "str"] H Q := isi_of h.dp (kit_str d) q
theorem isi_tuple {N : Addr → Prop} (h : Da N H v d) (q : Q (.bl (isTupB d)) H) : rIsi K [v, .ty "tuple"] H Q := isi_of h.dp (kit_tuple d) q
end
/-- if on a Bool -/
theorem ifb {A B : Prop} {b : Bool} (h1 : b = true → A) (h2 : b = false → B) : if b = true then A else B := by
  cases b
  · exact iteF (h2 rfl)
  · exact iteT (h1 rfl)
end K59
/-! K59Rules -/
set_option Elab.async false
set_option linter.all false
set_option maxRecDepth 100000
set_option maxHeartbeats 4000000
namespace K59
open PySem PySem.W PySem.Calls PySem.Spec PyProof.Rows L2
/-! ### rules with the written part named (within a comprehension's block) -/
section
variable {X : Cx} {K : Frag}
theorem ix_listC (h : X.K = K) : IxR X (rIxL K) := h ▸ ix_list
theorem ix_tupC (h : X.K = K) : IxR X (rIxT K) := h ▸ ix_tup
theorem ix_seqC (h : X.K = K) : IxR X (rIx K) := h ▸ ix_seq
theorem call_len_seqC (h : X.K = K) : CallR X (.builtin "len") (fun xs H Q => ∃ p ys, xs = [.ref p] ∧ (SqL K H p ys ∨ SqT K H p ys) ∧ Q (.int ys.length) H) := h ▸ call_len_seq
theorem call_list_ofC (h : X.K = K) : CallR X (.type "list") (fun xs H Q => ∃ p ys, xs = [.ref p] ∧ (SqL K H p ys ∨ SqT K H p ys) ∧ ∀ l, H l = none → Q (.ref l) (upd H l (.lst ys))) := h ▸ call_list_of
theorem call_tuple_ofC (h : X.K = K) : CallR X (.type "tuple") (fun xs H Q => ∃ p ys, xs = [.ref p] ∧ ((SqL K H p ys ∧ ∀ l, H l = none → Q (.ref l) (upd H l (.tup ys))) ∨ (SqT K H p ys ∧ Q (.ref p) H))) := h ▸ call_tuple_of
theorem op_in_seqC (h : X.K = K) : OpR X (compareOp .In) (rIn K false) := h ▸ op_in_seq
theorem op_notIn_seqC (h : X.K = K) : OpR X (compareOp .NotIn) (rIn K true) := h ▸ op_notIn_seq
theorem op_catAC (h : X.K = K) : OpR X (binaryOp .Add) (rCatA K) := h ▸ op_catA
theorem sl_tupAC (h : X.K = K) : SlR X (rSlA K) := h ▸ sl_tupA
theorem sl_listC (h : X.K = K) : SlR X (rSlL K) := h ▸ sl_list
theorem call_isiC (h : X.K = K) : CallR X (.builtin "isinstance") (rIsi K) := h ▸ call_isi
theorem op_eqDC (h : X.K = K) (hu : X.A.units + 64 < cLine) : OpR X (compareOp .Eq) (rEqD K) := h ▸ op_eqD hu
theorem op_neDC (h : X.K = K) (hu : X.A.units + 64 < cLine) : OpR X (compareOp .NotEq) (rNeD K) := h ▸ op_neD hu
theorem op_repTC (h : X.K = K) : OpR X (binaryOp .Mult) (rRepT K) := h ▸ op_repT
theorem mt_tup_indexC (h : X.K = K) : MtR X "tuple.index" (fun x xs H Q => ∃ p, ∃ ys : List Str, ∃ z j, x = .ref p ∧ xs = [.str z] ∧ SqT K H p (ys.map V.str) ∧ ys[j]? = some z ∧ (∀ m, m < j → ys[m]? ≠ some z) ∧ Q (.int (j : Nat)) H) := h ▸ mt_tup_index
theorem cr_allC (h : X.K = K) (hc : X.calm = true) : CallR X (.builtin "all") (rAll K) := h ▸ cr_all hc
theorem cr_sumC (h : X.K = K) (hc : X.calm = true) : CallR X (.builtin "sum") (rSum K) := h ▸ cr_sum hc
theorem cr_maxC (h : X.K = K) (hc : X.calm = true) : CallR X (.builtin "max") (rMax K) := h ▸ cr_max hc
theorem cr_minC (h : X.K = K) (hc : X.calm = true) : CallR X (.builtin "min") (rMin K) := h ▸ cr_min hc
theorem pe_fldC {e : Expr} {f : Str} {ta : TE} {pos : Pos} (h : X.K = K) (he : PE X e ta) (hb : attributeBase e f X.env (eval e X.env) = eval e X.env) : PE X (.Attribute e f pos) (tFld K ta f) := h ▸ pe_fld he hb
theorem pi_tupC {tg l : Expr} {tl : TE} (h : X.K = K) (hl : PE X l tl) : PI X tg l (iTup K tl) := h ▸ pi_tup hl
theorem pi_listC {tg l : Expr} {tl : TE} (h : X.K = K) (hl : PE X l tl) : PI X tg l (iList K tl) := h ▸ pi_list hl
theorem pg_tupC {es : List Expr} {k : Nat} {t : TGs} {n : Nat} {pos : Pos} (h : X.K = K) (hc : X.calm = true) (hp : PGs X es t)
    (hn : (assignEach es X.env).length = n := by rfl) (hst : (assignEach es X.env).findIdx? (·.1) = none := by rfl) : PG X (.Tuple es k pos) (gTup K n t) := h ▸ pg_tup hc hp hn hst
end
end K59
/-! K59Auto -/
set_option Elab.async false
set_option linter.all false
set_option maxRecDepth 100000
set_option maxHeartbeats 4000000
namespace K59
open PySem PySem.W PySem.Calls PySem.Spec PyProof.Rows L2
/-! ### a reading, one step at a time: what is to be shown ahead of each part -/
section
variable {K : Frag} {σ : L2.St} {H : Hp} {Q : VK} {v x y : V} {ta tb tc te to : TE} {tt uu cc : TT} {D : Ends} {r r' : R2} {a b p : Addr} {xs ys : List V}
theorem rd_var {i : Nat} (h : σ[i]? = some (some v)) (q : Q v H) : tVar i σ H Q := ⟨v, h, q⟩
theorem rd_c (q : Q v H) : tC v σ H Q := q
theorem rd_op (q : ta σ H fun x H1 => tb σ H1 fun y H2 => r x y H2 Q) : tOp r ta tb σ H Q := q
theorem rd_un {f : V → Hp → VK → Prop} (q : ta σ H fun x H1 => f x H1 Q) : tUn f ta σ H Q := q
theorem rd_nil {Q : List V → Hp → Prop} (q : Q [] H) : tNil σ H Q := q
theorem rd_cons {t : TA} {Q : List V → Hp → Prop} (q : ta σ H fun x H1 => t σ H1 fun xs H2 => Q (x :: xs) H2) : tCons ta t σ H Q := q
theorem rd_cb {f : List V → Hp → VK → Prop} {t : TA} (q : t σ H fun vs H1 => f vs H1 Q) : tCB f t σ H Q := q
theorem rd_call {sp : Sp} {dvs : List V} {E : XK} {t : TA} (q : t σ H fun vs H1 => sp (vs ++ dvs) H1 Q E) : tCall sp dvs E t σ H Q := q
theorem rd_test {Q : Bool → Hp → Prop} (q : te σ H fun x H' => ∃ k, x = .bl k ∧ Q k H') : tTest te σ H Q := q
theorem rd_B {Q : Bool → Hp → Prop} (q : te σ H fun x H' => ∃ k, x = .bl k ∧ Q k H') : tB te σ H Q := q
theorem rd_bl {c : Bool} {R : Bool → Prop} (q : R c) : ∃ k, V.bl c = V.bl k ∧ R k := ⟨c, rfl, q⟩
theorem rd_and {Q : Bool → Hp → Prop} (q : tt σ H fun c H1 => if c = true then uu σ H1 Q else Q false H1) : tAnd tt uu σ H Q := q
theorem rd_or {Q : Bool → Hp → Prop} (q : tt σ H fun c H1 => if c = true then Q true H1 else uu σ H1 Q) : tOr tt uu σ H Q := q
theorem rd_not {Q : Bool → Hp → Prop} (q : tt σ H fun c H1 => Q (!c) H1) : tNot tt σ H Q := q
theorem rd_andV (q : ta σ H fun x H1 => ∃ c, x = .bl c ∧ if c = true then tb σ H1 Q else Q (.bl false) H1) : tAndV ta tb σ H Q := q
theorem rd_orV (q : ta σ H fun x H1 => ∃ c, x = .bl c ∧ if c = true then Q (.bl true) H1 else tb σ H1 Q) : tOrV ta tb σ H Q := q
theorem rd_notV (q : ta σ H fun x H1 => ∃ c, x = .bl c ∧ Q (.bl (!c)) H1) : tNotV ta σ H Q := q
theorem rd_if (q : tt σ H fun c H1 => if c = true then ta σ H1 Q else tb σ H1 Q) : tIf tt ta tb σ H Q := q
theorem rd_ifV (h : ∀ Q : VK, Q v H → (tt σ H fun c H1 => if c = true then ta σ H1 Q else tb σ H1 Q)) (q : Q v H) : tIf tt ta tb σ H Q := h Q q
theorem rd_chain (q : ta σ H fun x H1 => tb σ H1 fun y H2 => r x y H2 fun z H3 => ∃ k, z = .bl k ∧ (if k = true then tc σ H3 fun w' H4 => r' y w' H4 Q else Q (.bl false) H3)) : tChain r r' ta tb tc σ H Q := q
theorem rd_I0 {g : Int → Int → V} {i j : Int} (q : Q (g i j) H) : rI0 g (.int i) (.int j) H Q := ⟨i, j, rfl, rfl, q⟩
theorem rd_I {C : Int → Int → Prop} {g : Int → Int → V} {i j : Int} (c : C i j) (q : Q (g i j) H) : rI C g (.int i) (.int j) H Q := ⟨i, j, rfl, rfl, c, q⟩
theorem rd_U {g : Int → V} {i : Int} (q : Q (g i) H) : rU g (.int i) H Q := ⟨i, rfl, q⟩
theorem rd_eqI {i j : Int} (q : Q (.bl (decide (i = j))) H) : rEq (.int i) (.int j) H Q := ⟨rfl, by rw [dec_int, Bool.beq_eq_decide_eq]; exact q⟩
theorem rd_neI {i j : Int} (q : Q (.bl (!decide (i = j))) H) : rNe (.int i) (.int j) H Q := ⟨rfl, by rw [dec_int, Bool.beq_eq_decide_eq]; exact q⟩
theorem dec_strD {i j : Str} : decide (V.str i = V.str j) = decide (i = j) := by
  by_cases h : i = j
  · rw [decide_eq_true h, decide_eq_true (congrArg V.str h)]
  · rw [decide_eq_false h, decide_eq_false fun z => h (V.str.inj z)]
theorem rd_eqS {i j : Str} (q : Q (.bl (decide (i = j))) H) : rEq (.str i) (.str j) H Q := ⟨rfl, by rw [dec_strD]; exact q⟩
theorem rd_neS {i j : Str} (q : Q (.bl (!decide (i = j))) H) : rNe (.str i) (.str j) H Q := ⟨rfl, by rw [dec_strD]; exact q⟩
theorem rd_nn {R : Prop} (q : R) : V.non = V.non ∧ R := ⟨rfl, q⟩
/-! statements -/
theorem rd_asg {g : TG} (q : te σ H fun x H1 => g x σ H1 D.nx) : tAsg te g D σ H := q
theorem rd_gname {i : Nat} {Q : L2.St → Hp → Prop} (q : Q (σ.set i (some v)) H) : gName i v σ H Q := q
theorem rd_seq {t u : TS} (q : t { D with nx := u D } σ H) : tSeq t u D σ H := q
theorem rd_ifS {t u : TS} (q : cc σ H fun b H1 => if b = true then t D σ H1 else u D σ H1) : tIfS cc t u D σ H := q
theorem rd_ret (q : te σ H D.rt) : tRet te D σ H := q
theorem rd_next (q : D.nx σ H) : tNext D σ H := q
theorem rd_cont (q : D.ct σ H) : tCont D σ H := q
theorem rd_drop (q : te σ H fun _ H1 => D.nx σ H1) : tDrop te D σ H := q
theorem rd_par {i j : Nat} {t : TA} (q : t σ H fun vs H1 => ∃ v w, vs = [v, w] ∧ D.nx ((σ.set i (some v)).set j (some w)) H1) : tPar i j t D σ H := q
theorem rd_vs2 {R : V → V → Prop} (q : R x y) : ∃ v w, [x, y] = [v, w] ∧ R v w := ⟨x, y, rfl, q⟩
theorem rd_gsub {ti : TE} {t : TSet} {Q : L2.St → Hp → Prop} (q : to σ H fun o H1 => ti σ H1 fun i H2 => t o i v H2 fun H3 => Q σ H3) : gSub to ti t v σ H Q := q
theorem rd_gcons {t : TG} {u : TGs} {vs : List V} {Q : L2.St → Hp → Prop} (q : t v σ H fun σ' H' => u vs σ' H' Q) : gCons t u (v :: vs) σ H Q := ⟨v, vs, rfl, q⟩
theorem rd_gnil {Q : L2.St → Hp → Prop} (q : Q σ H) : gNil [] σ H Q := ⟨rfl, q⟩
theorem rd_gtup {n : Nat} {t : TGs} {Q : L2.St → Hp → Prop} (h : H p = some (.tup xs)) (l : xs.length = n) (q : t xs σ H Q) : gTup K n t (.ref p) σ H Q := ⟨p, xs, rfl, .inl (.inl h), l, q⟩
/-! objects -/
theorem rd_tup {t : TA} (q : t σ H fun xs H1 => xs.length ≤ sizeLine ∧ ∀ p, H1 p = none → Q (.ref p) (upd H1 p (.tup xs))) : tTup t σ H Q := q
theorem rd_lst {t : TA} (q : t σ H fun xs H1 => xs.length ≤ sizeLine ∧ ∀ p, H1 p = none → Q (.ref p) (upd H1 p (.lst xs))) : tLst t σ H Q := q
theorem rd_ixT {i : Int} (h : H p = some (.tup xs)) (e : atI xs i = some v) (q : Q v H) : rIxT K (.ref p) (.int i) H Q := ⟨p, xs, i, v, rfl, rfl, .inl (.inl h), e, q⟩
theorem rd_ixL {i : Int} (h : H p = some (.lst xs)) (e : atI xs i = some v) (q : Q v H) : rIxL K (.ref p) (.int i) H Q := ⟨p, xs, i, v, rfl, rfl, .inl (.inl h), e, q⟩
theorem rd_lenT {R : List V → Prop} (h : H p = some (.tup xs)) (q : R xs) : ∃ p' ys, [V.ref p] = [V.ref p'] ∧ (SqL K H p' ys ∨ SqT K H p' ys) ∧ R ys := ⟨p, xs, rfl, .inr (.inl (.inl h)), q⟩
theorem rd_lenL {R : List V → Prop} (h : H p = some (.lst xs)) (q : R xs) : ∃ p' ys, [V.ref p] = [V.ref p'] ∧ (SqL K H p' ys ∨ SqT K H p' ys) ∧ R ys := ⟨p, xs, rfl, .inl (.inl (.inl h)), q⟩
theorem rd_lenS {R : Str → Prop} {z : Str} (l : z.length ≤ sizeLine) (q : R z) : ∃ z', [V.str z] = [V.str z'] ∧ z'.length ≤ sizeLine ∧ R z' := ⟨z, rfl, l, q⟩
theorem rd_all {bs : List Bool} (h : H p = some (.lst (bs.map V.bl))) (q : Q (.bl (bs.all id)) H) : rAll K [.ref p] H Q := ⟨p, bs, rfl, .inl (.inl h), q⟩
theorem rd_sl {f : V → Option Int → Option Int → Hp → VK → Prop} {tl th : TO} (q : te σ H fun x H1 => tl σ H1 fun l H2 => th σ H2 fun u H3 => f x l u H3 Q) : tSl f te tl th σ H Q := q
theorem rd_part {Q : Option Int → Hp → Prop} (q : te σ H fun x H1 => ∃ i, x = .int i ∧ Q (some i) H1) : tPart te σ H Q := q
theorem rd_nopart {Q : Option Int → Hp → Prop} (q : Q none H) : tNoPart σ H Q := q
theorem rd_i1 {i : Int} {R : Int → Prop} (q : R i) : ∃ k, V.int i = V.int k ∧ R k := ⟨i, rfl, q⟩
theorem rd_bm {T : String} {f : V → List V → Hp → VK → Prop} {t : TA} (q : to σ H fun x H1 => tyV K T x H1 ∧ t σ H1 fun xs H2 => f x xs H2 Q) : tBM K T f to t σ H Q := q
theorem rd_tupOf {R : List V → Prop} {R2 : Addr → Prop} (h : H p = some (.lst xs)) (q : R xs) : ∃ p' ys, [V.ref p] = [V.ref p'] ∧ ((SqL K H p' ys ∧ R ys) ∨ (SqT K H p' ys ∧ R2 p')) :=
  ⟨p, xs, rfl, .inl ⟨.inl (.inl h), q⟩⟩
end
theorem if_t {A B : Prop} {b : Bool} (h : b = true) (q : A) : if b = true then A else B := by
  rw [if_pos h]
  exact q
theorem if_f {A B : Prop} {b : Bool} (h : b = false) (q : B) : if b = true then A else B := by
  rw [h]
  exact iteF q
theorem szc {n : Nat} (h : Nat.ble n 1000 = true) : n ≤ sizeLine := sz (Nat.le_of_ble_eq_true h)
/-! ### loops and comprehensions over a walk -/
def LcAt (J : It) (g : TG) (tt : TT) (te : TE) (vs : List Nat) (σ : L2.St) (H : Hp) (Q : VK) : Prop := tLc (fun _ H R => R J H) g tt te vs σ H Q
def ForAt (J : It) (g : TG) (tb : TS) (D : Ends) (σ : L2.St) (H : Hp) : Prop := tFor (fun _ H R => R J H) g tb D σ H
section
variable {K : Frag} {σ : L2.St} {H : Hp} {Q : VK} {ts te : TE} {ta : TA} {g : TG} {tt : TT} {tb : TS} {vs : List Nat} {D : Ends} {J : It} {n : Nat} {G : Hp → Prop} {Y : Nat → Hp → V → Hp → Prop} {p : Addr} {xs : List V}
theorem rd_lcT (q : ts σ H fun x H1 => ∃ a, x = .ref a ∧ (∃ xs, SqT K H1 a xs) ∧ LcAt (Itt K a) g tt te vs σ H1 Q) : tLc (iTup K ts) g tt te vs σ H Q := q
theorem rd_lcL (q : ts σ H fun x H1 => ∃ a, x = .ref a ∧ (∃ xs, SqL K H1 a xs) ∧ LcAt (Itl K a) g tt te vs σ H1 Q) : tLc (iList K ts) g tt te vs σ H Q := q
theorem rd_lcR1 (q : ta σ H fun vz H1 => ∃ j : Int, vz = [.int j] ∧ -(2 ^ 62) ≤ j ∧ j < 2 ^ 62 ∧ LcAt (Itr 0 j.toNat) g tt te vs σ H1 Q) : tLc (iRng1 ta) g tt te vs σ H Q := q
theorem rd_lcS (q : ts σ H fun v H1 => ∃ x, v = .str x ∧ LcAt (Its x) g tt te vs σ H1 Q) : tLc (iStr ts) g tt te vs σ H Q := q
theorem rd_forT (q : ts σ H fun x H1 => ∃ a, x = .ref a ∧ (∃ xs, SqT K H1 a xs) ∧ ForAt (Itt K a) g tb D σ H1) : tFor (iTup K ts) g tb D σ H := q
theorem rd_forL (q : ts σ H fun x H1 => ∃ a, x = .ref a ∧ (∃ xs, SqL K H1 a xs) ∧ ForAt (Itl K a) g tb D σ H1) : tFor (iList K ts) g tb D σ H := q
theorem rd_forR1 (q : ta σ H fun vz H1 => ∃ j : Int, vz = [.int j] ∧ -(2 ^ 62) ≤ j ∧ j < 2 ^ 62 ∧ ForAt (Itr 0 j.toNat) g tb D σ H1) : tFor (iRng1 ta) g tb D σ H := q
theorem rd_atT {R : Addr → Prop} (h : H p = some (.tup xs)) (q : R p) : ∃ a, V.ref p = .ref a ∧ (∃ xs, SqT K H a xs) ∧ R a := ⟨p, rfl, ⟨xs, .inl (.inl h)⟩, q⟩
theorem rd_atL {R : Addr → Prop} (h : H p = some (.lst xs)) (q : R p) : ∃ a, V.ref p = .ref a ∧ (∃ xs, SqL K H a xs) ∧ R a := ⟨p, rfl, ⟨xs, .inl (.inl h)⟩, q⟩
theorem rd_atR {i : Int} {R : Int → Prop} (h1 : -(2 ^ 62) ≤ i) (h2 : i < 2 ^ 62) (q : R i) : ∃ j : Int, [V.int i] = [.int j] ∧ -(2 ^ 62) ≤ j ∧ j < 2 ^ 62 ∧ R j := ⟨i, rfl, h1, h2, q⟩
theorem rd_atS {z : Str} {R : Str → Prop} (q : R z) : ∃ x, V.str z = .str x ∧ R x := ⟨z, rfl, q⟩
theorem rd_yes {Q : Bool → Hp → Prop} (q : Q true H) : tYes σ H Q := q
theorem tk_lst {D : Addr} {ys zs : List V} (e : H D = some (.lst ys)) : TK H (upd H D (.lst zs)) := fun b xs h => by
  rw [upd_ne (ne_of h e (by intro z; cases z))]
  exact h
theorem forW (w : Walk J n G Y) (Pv : Nat → L2.St → Hp → Prop) (h0 : Pv 0 σ H) (hG : ∀ i σ H, i ≤ n → Pv i σ H → G H)
    (hs : ∀ i x σ H H', i < n → Pv i σ H → Y i H x H' → g x σ H' fun σ2 H2 => tb { D with nx := Pv (i + 1), ct := Pv (i + 1), bk := D.nx } σ2 H2) (hd : ∀ σ H, Pv n σ H → D.nx σ H) : ForAt J g tb D σ H := for_it w Pv h0 hG hs hd
/-- a comprehension whose turns keep all that was tracked -/
theorem lcW (w : Walk J n G Y) (φ : Nat → List V → Hp → Prop) (mono : ∀ j acc H1 H2, TK H1 H2 → φ j acc H1 → φ j acc H2) (h0 : φ 0 [] H) (hn : n ≤ 10000000) (gk : ∀ H1, Same H H1 → G H1)
    (step : ∀ j x acc H1 H1', j < n → Same H H1 → φ j acc H1 → acc.length ≤ j → Y j H1 x H1' → ∀ (Qy : VK) (Qn : Hp → Prop), (∀ y H2, Same H1 H2 → φ (j + 1) (acc ++ [y]) H2 → Qy y H2) → (∀ H2, Same H1 H2 → φ (j + 1) acc H2 → Qn H2) →
      g x (wipe σ vs) H1' fun σ2 H2 => wipe σ2 vs = wipe σ vs ∧ tt σ2 H2 fun b H3 => if b = true then te σ2 H3 Qy else Qn H3)
    (fin : ∀ L H1 acc, H L = none → Same H H1 → H1 L = some (.lst acc) → φ n acc H1 → acc.length ≤ n → Q (.ref L) H1) : LcAt J g tt te vs σ H Q := fun L hL => by
  refine lc_it w (fun j H1 => ∃ acc, Same H H1 ∧ H1 L = some (.lst acc) ∧ φ j acc H1 ∧ acc.length ≤ j) ⟨[], same_new hL, upd_same, mono _ _ _ _ (Same.tk (same_new hL)) h0, Nat.le_refl _⟩ (fun j H1 _ ⟨_, s, _⟩ => gk H1 s) (fun j x H1 H1' hj ⟨acc, s, e, f, l⟩ y => ?_) fun H1 ⟨acc, s, e, f, l⟩ => fin L H1 acc hL s e f l
  refine step j x acc H1 H1' hj s f l y _ _ (fun z H2 s2 f2 => ?_) fun H2 s2 f2 => ⟨acc, s.trans s2, s2 _ _ e, f2, Nat.le_succ_of_le l⟩
  have e2 := s2 _ _ e
  refine ⟨acc, e2, Nat.lt_of_le_of_lt (Nat.le_trans l (Nat.le_trans (Nat.le_of_lt hj) hn)) (by decide), acc ++ [z], same_mut (s.trans s2) hL, upd_same, mono _ _ _ _ (tk_lst e2) f2, ?_⟩
  rw [List.length_append, List.length_singleton]
  omega
/-- a comprehension of known values, without a test -/
theorem lcM (w : Walk J n G Y) (ys : List V) (hl : ys.length = n) (hn : n ≤ 10000000) (gk : ∀ H1, Same H H1 → G H1)
    (step : ∀ j x H1 H1' y, j < n → Same H H1 → Y j H1 x H1' → ys[j]? = some y → ∀ (Qy : VK) (Qn : Hp → Prop), (∀ H2, Same H1 H2 → Qy y H2) →
      g x (wipe σ vs) H1' fun σ2 H2 => wipe σ2 vs = wipe σ vs ∧ tt σ2 H2 fun b H3 => if b = true then te σ2 H3 Qy else Qn H3)
    (fin : ∀ L H1, H L = none → Same H H1 → H1 L = some (.lst ys) → Q (.ref L) H1) : LcAt J g tt te vs σ H Q := by
  refine lcW w (fun j acc _ => acc = ys.take j) (fun _ _ _ _ _ h => h) rfl hn gk (fun j x acc H1 H1' hj s f l y Qy Qn hy _ => ?_) fun L H1 acc hL s e f _ => ?_
  · have hj2 : j < ys.length := by omega
    refine step j x H1 H1' ys[j] hj s y (List.getElem?_eq_getElem hj2) Qy Qn fun H2 s2 => hy _ _ s2 ?_
    rw [f, List.take_add_one, List.getElem?_eq_getElem hj2] <;> rfl
  · have e2 : acc = ys := by rw [f, ← hl, List.take_length]
    subst e2
    exact fin L H1 hL s e
/-- .. whose turns may draw -/
theorem lcF {F : Addr} (w : Walk J n G Y) (fl : Fl H F) (φ : Nat → List V → Hp → Prop) (mono : ∀ j acc H1 H2, TK H1 H2 → φ j acc H1 → φ j acc H2) (h0 : φ 0 [] H) (hn : n ≤ 10000000) (gk : ∀ H1, FK F H H1 → G H1)
    (step : ∀ j x acc H1 H1', j < n → FK F H H1 → φ j acc H1 → acc.length ≤ j → Y j H1 x H1' → ∀ (Qy : VK) (Qn : Hp → Prop), (∀ y H2, FK F H1 H2 → φ (j + 1) (acc ++ [y]) H2 → Qy y H2) → (∀ H2, FK F H1 H2 → φ (j + 1) acc H2 → Qn H2) →
      g x (wipe σ vs) H1' fun σ2 H2 => wipe σ2 vs = wipe σ vs ∧ tt σ2 H2 fun b H3 => if b = true then te σ2 H3 Qy else Qn H3)
    (fin : ∀ L H1 acc, H L = none → FK F H H1 → H1 L = some (.lst acc) → φ n acc H1 → acc.length ≤ n → Q (.ref L) H1) : LcAt J g tt te vs σ H Q := fun L hL => by
  have nF : L ≠ F := fun z => by
    obtain ⟨a, b, c, e⟩ := fl
    rw [z, e] at hL
    cases hL
  have up : ∀ {H1 : Hp} {o : HO}, FK F H H1 → FK F H (upd H1 L o) := fun {H1 o} k => by
    obtain ⟨a, b, c, e⟩ := k.fl
    refine ⟨⟨a, b, c, by rw [upd_ne nF.symm]; exact e⟩, fun d u h hd => ?_⟩
    rw [upd_ne (ne_of_none h hL)]
    exact k.kp d u h hd
  refine lc_it w (fun j H1 => ∃ acc, FK F H H1 ∧ H1 L = some (.lst acc) ∧ φ j acc H1 ∧ acc.length ≤ j) ⟨[], up (FK.refl fl), upd_same, mono _ _ _ _ (Same.tk (same_new hL)) h0, Nat.le_refl _⟩ (fun j H1 _ ⟨_, s, _⟩ => gk H1 s) (fun j x H1 H1' hj ⟨acc, s, e, f, l⟩ y => ?_) fun H1 ⟨acc, s, e, f, l⟩ => fin L H1 acc hL s e f l
  refine step j x acc H1 H1' hj s f l y _ _ (fun z H2 s2 f2 => ?_) fun H2 s2 f2 => ⟨acc, s.trans s2, s2.kp _ _ e nF, f2, Nat.le_succ_of_le l⟩
  have e2 := s2.kp _ _ e nF
  refine ⟨acc, e2, Nat.lt_of_le_of_lt (Nat.le_trans l (Nat.le_trans (Nat.le_of_lt hj) hn)) (by decide), acc ++ [z], up (s.trans s2), upd_same, mono _ _ _ _ (tk_lst e2) f2, ?_⟩
  rw [List.length_append, List.length_singleton]
  omega
end
section
variable {K : Frag} {σ : L2.St} {H : Hp} {Q : VK} {g : TG} {tt : TT} {te : TE} {vs : List Nat} {J : It} {n : Nat} {G : Hp → Prop} {Y : Nat → Hp → V → Hp → Prop}
/-- a comprehension that makes lists of its own: the new list L alone is written, besides what the turns make -/
theorem lcK (w : Walk J n G Y) (φ : Addr → Nat → List V → Hp → Prop) (h0 : ∀ L, H L = none → φ L 0 [] (upd H L (.lst []))) (mono : ∀ L j acc H1 H2, Kp L H1 H2 → φ L j acc H1 → φ L j acc H2) (hn : n ≤ 10000000) (gk : ∀ H1, Same H H1 → G H1)
    (step : ∀ L j x acc H1 H1', j < n → Same H H1 → H L = none → H1 L = some (.lst acc) → φ L j acc H1 → acc.length ≤ j → Y j H1 x H1' → ∀ (Qy : VK) (Qn : Hp → Prop), (∀ y H2, Same H1 H2 → φ L (j + 1) (acc ++ [y]) H2 → Qy y H2) → (∀ H2, Same H1 H2 → φ L (j + 1) acc H2 → Qn H2) →
      g x (wipe σ vs) H1' fun σ2 H2 => wipe σ2 vs = wipe σ vs ∧ tt σ2 H2 fun b H3 => if b = true then te σ2 H3 Qy else Qn H3)
    (fin : ∀ L H1 acc, H L = none → Same H H1 → H1 L = some (.lst acc) → φ L n acc H1 → acc.length ≤ n → Q (.ref L) H1) : LcAt J g tt te vs σ H Q := fun L hL => by
  refine lc_it w (fun j H1 => ∃ acc, Same H H1 ∧ H1 L = some (.lst acc) ∧ φ L j acc H1 ∧ acc.length ≤ j) ⟨[], same_new hL, upd_same, h0 L hL, Nat.le_refl _⟩ (fun j H1 _ ⟨_, s, _⟩ => gk H1 s) (fun j x H1 H1' hj ⟨acc, s, e, f, l⟩ y => ?_) fun H1 ⟨acc, s, e, f, l⟩ => fin L H1 acc hL s e f l
  refine step L j x acc H1 H1' hj s hL e f l y _ _ (fun z H2 s2 f2 => ?_) fun H2 s2 f2 => ⟨acc, s.trans s2, s2 _ _ e, f2, Nat.le_succ_of_le l⟩
  have e2 := s2 _ _ e
  refine ⟨acc, e2, Nat.lt_of_le_of_lt (Nat.le_trans l (Nat.le_trans (Nat.le_of_lt hj) hn)) (by decide), acc ++ [z], same_mut (s.trans s2) hL, upd_same, mono _ _ _ _ _ (kp_upd _) f2, ?_⟩
  rw [List.length_append, List.length_singleton]
  omega
end
local macro_rules | `(tactic| walk_at "hp") => `(tactic| first
  | assumption
  | exact upd_same
  | (refine same_new (by assumption) _ _ ?_; walk_at "hp")
  | (refine (by assumption : Same _ _) _ _ ?_; walk_at "hp")
  | (refine FK.tk (by assumption) (by assumption) _ _ ?_; walk_at "hp"))
local macro_rules | `(tactic| walk_at "sq") => `(tactic| first
  | assumption
  | exact FrzT.sq (by assumption)
  | (refine sqt_new (by assumption) ?_; walk_at "sq")
  | (refine sqt_same ?_ (by assumption); walk_at "sq"))
local macro_rules | `(tactic| walk_at "fz") => `(tactic| first
  | assumption
  | (refine frz_new (by assumption) ?_; walk_at "fz")
  | (refine FrzT.same ?_ (by assumption); walk_at "fz"))
local macro_rules | `(tactic| walk_at "ic") => `(tactic| first
  | ((with_reducible show (0 : Int) < _); decide)
  | exact Or.inl ⟨by decide, by decide⟩
  | exact Or.inr ⟨by decide, by decide⟩
  | exact (show (0 : Int) < _ ∧ _ < (1073741824 : Int) from ⟨by decide, by decide⟩)
  | exact (show (0 : Int) ≤ _ ∧ _ ≤ (1000000 : Int) ∧ Int.natAbs _ < 2 ^ 64 from ⟨by decide, by decide, by decide⟩)
  | exact (⟨by decide, by decide, by decide⟩ : _ ∧ _ ∧ _))
local macro_rules | `(tactic| walk_at "st") => `(tactic| first
  | with_reducible refine rd_var rfl ?_
  | with_reducible refine rd_c ?_
  | with_reducible refine rd_cons ?_
  | with_reducible refine rd_nil ?_
  | with_reducible refine rd_op ?_
  | with_reducible refine rd_cb ?_
  | with_reducible refine rd_call ?_
  | with_reducible refine rd_test ?_
  | with_reducible refine rd_B ?_
  | with_reducible refine rd_bl ?_
  | with_reducible refine rd_un ?_
  | with_reducible refine rd_and ?_
  | with_reducible refine rd_or ?_
  | with_reducible refine rd_not ?_
  | with_reducible refine rd_andV ?_
  | with_reducible refine rd_orV ?_
  | with_reducible refine rd_notV ?_
  | with_reducible refine rd_if ?_
  | with_reducible refine rd_chain ?_
  | with_reducible refine rd_I0 ?_
  | with_reducible refine rd_U ?_
  | with_reducible refine rd_eqI ?_
  | with_reducible refine rd_neI ?_
  | with_reducible refine rd_eqS ?_
  | with_reducible refine rd_neS ?_
  | with_reducible refine rd_nn ?_
  | with_reducible refine rd_asg ?_
  | with_reducible refine rd_gname ?_
  | with_reducible refine rd_seq ?_
  | with_reducible refine rd_ifS ?_
  | with_reducible refine rd_ret ?_
  | with_reducible refine rd_next ?_
  | with_reducible refine rd_cont ?_
  | with_reducible refine rd_drop ?_
  | with_reducible refine rd_par ?_
  | with_reducible refine rd_vs2 ?_
  | with_reducible refine rd_gsub ?_
  | with_reducible refine rd_gcons ?_
  | with_reducible refine rd_gnil ?_
  | with_reducible refine rd_tup ?_
  | with_reducible refine rd_lst ?_
  | with_reducible refine rd_sl ?_
  | with_reducible refine rd_part ?_
  | with_reducible refine rd_nopart ?_
  | with_reducible refine rd_i1 ?_
  | with_reducible refine rd_bm ?_
  | with_reducible refine rd_yes ?_
  | with_reducible refine rd_lcT ?_
  | with_reducible refine rd_lcL ?_
  | with_reducible refine rd_lcR1 ?_
  | with_reducible refine rd_lcS ?_
  | with_reducible refine rd_forT ?_
  | with_reducible refine rd_forL ?_
  | with_reducible refine rd_forR1 ?_
  | with_reducible refine rd_atS ?_
  | with_reducible refine rd_forEn ?_
  | with_reducible refine rd_dget ?_
  | with_reducible refine rd_din ?_
  | with_reducible refine rd_dget2 ?_
  | with_reducible refine rd_dput ?_
  | with_reducible refine rd_disp ?_
  | with_reducible refine rd_pcons ?_
  | with_reducible refine rd_pnil ?_
  | with_reducible refine rd_dcL ?_
  | with_reducible refine rd_lcEn ?_
  | with_reducible refine rd_yS ?_
  | with_reducible refine rd_m1 ?_
  | with_reducible refine rd_meth ?_
  | with_reducible refine rd_fld ?_
  | with_reducible refine rd_sfld ?_
  | with_reducible refine rd_make ?_
  | with_reducible refine rd_fmt ?_
  | with_reducible refine rd_js ?_
  | with_reducible refine rd_js0 ?_
  | with_reducible refine iteT ?_
  | with_reducible refine iteF ?_
  | ((with_reducible refine isi_int (d := ?d1) (N := ?n1) ?h1 ?_); (case h1 => assumption))
  | ((with_reducible refine isi_bool (d := ?d1) (N := ?n1) ?h1 ?_); (case h1 => assumption))
  | ((with_reducible refine isi_str (d := ?d1) (N := ?n1) ?h1 ?_); (case h1 => assumption))
  | ((with_reducible refine isi_tuple (d := ?d1) (N := ?n1) ?h1 ?_); (case h1 => assumption))
  | with_reducible refine isi_str (N := fun _ => True) (Da.str _) ?_
  | with_reducible refine isi_int (N := fun _ => True) (Da.int _) ?_
  | with_reducible refine isi_bool (N := fun _ => True) (Da.int _) ?_
  | with_reducible refine isi_str (N := fun _ => True) (Da.int _) ?_
  | ((with_reducible show (wipe _ _ = wipe _ _) ∧ _); refine ⟨rfl, ?_⟩)
  | ((with_reducible show Ends.nx _ _ _); dsimp only)
  | ((with_reducible show Ends.rt _ _ _); dsimp only)
  | ((with_reducible show Ends.ct _ _ _); dsimp only)
  | ((with_reducible refine rd_ixT (xs := ?x1) (v := ?v1) ?h1 ?e1 ?_); (case h1 => walk_at "hp"); (case e1 => rfl))
  | ((with_reducible refine rd_ixL (xs := ?x1) (v := ?v1) ?h1 ?e1 ?_); (case h1 => walk_at "hp"); (case e1 => rfl))
  | ((with_reducible refine rd_lenT (xs := ?x1) ?h1 ?_); (case h1 => walk_at "hp"))
  | ((with_reducible refine rd_lenL (xs := ?x1) ?h1 ?_); (case h1 => walk_at "hp"))
  | ((with_reducible refine rd_tupOf (xs := ?x1) ?h1 ?_); (case h1 => walk_at "hp"))
  | ((with_reducible refine rd_all (bs := ?x1) ?h1 ?_); (case h1 => walk_at "hp"))
  | ((with_reducible refine rd_atT (xs := ?x1) ?h1 ?_); (case h1 => walk_at "hp"))
  | ((with_reducible refine rd_atL (xs := ?x1) ?h1 ?_); (case h1 => walk_at "hp"))
  | ((with_reducible refine rd_gtup (xs := ?x1) ?h1 ?e1 ?_); (case h1 => walk_at "hp"); (case e1 => rfl))
  | ((with_reducible refine rd_atEn (xs := ?x1) ?h1 ?_); (case h1 => walk_at "hp"))
  | ((with_reducible refine rd_slT (xs := ?x1) ?h1 ?_); (case h1 => walk_at "hp"))
  | ((with_reducible refine rd_slL (xs := ?x1) ?h1 ?_); (case h1 => walk_at "hp"))
  | ((with_reducible refine rd_inN (N := ?x1) ?h1 ?_); (case h1 => walk_at "hp"))
  | ((with_reducible refine rd_inL (N := ?x1) ?h1 ?_); (case h1 => walk_at "hp"))
  | ((with_reducible refine rd_notInN (N := ?x1) ?h1 ?_); (case h1 => walk_at "hp"))
  | ((with_reducible refine rd_notInL (N := ?x1) ?h1 ?_); (case h1 => walk_at "hp"))
  | with_reducible refine rd_tm ?_
  | ((with_reducible refine rd_isF (xs := ?x1) ?h1 ?_); (case h1 => walk_at "fz"))
  | ((with_reducible refine rd_lenTq (xs := ?x1) ?h1 ?_); (case h1 => walk_at "sq"))
  | ((with_reducible refine rd_atTq (xs := ?x1) ?h1 ?_); (case h1 => walk_at "sq"))
  | ((with_reducible refine rd_atEnq (xs := ?x1) ?h1 ?_); (case h1 => walk_at "sq"))
  | ((with_reducible refine rd_slTq (xs := ?x1) ?h1 ?_); (case h1 => walk_at "sq"))
  | ((with_reducible refine rd_inNq (N := ?x1) ?h1 ?_); (case h1 => walk_at "sq"))
  | ((with_reducible refine rd_setL (xs := ?x1) (j := ?j1) ?h1 ?e1 ?_); (case h1 => walk_at "hp"); (case e1 => rfl))
  | with_reducible refine rd_int1 ?_
  | with_reducible refine rd_x1 ?_
  | with_reducible refine rd_x2 ?_
  | ((with_reducible refine rd_tyL (xs := ?x1) ?h1 ?_); (case h1 => walk_at "hp"))
  | ((with_reducible refine rd_ixsL (xs := ?x1) (v := ?v1) ?h1 ?e1 ?_); (case h1 => walk_at "hp"); (case e1 => rfl))
  | ((with_reducible refine rd_ixsT (xs := ?x1) (v := ?v1) ?h1 ?e1 ?_); (case h1 => walk_at "hp"); (case e1 => rfl))
  | ((with_reducible refine rd_I ?c1 ?_); (case c1 => walk_at "ic"))
  | ((with_reducible refine if_t ?hb1 ?_); (case hb1 => rfl))
  | ((with_reducible refine if_f ?hb1 ?_); (case hb1 => rfl)))
local macro_rules | `(tactic| walk_at "go") => `(tactic| repeat (first | walk_at "st" | dsimp only))
end K59
/-! K59P1 -/
set_option Elab.async false
set_option linter.all false
set_option maxRecDepth 100000
set_option maxHeartbeats 4000000
namespace K59
open PySem PySem.W PySem.Calls PySem.Spec PyProof.Rows L2
local macro_rules | `(tactic| walk_at "hp") => `(tactic| first
  | assumption
  | exact upd_same
  | (refine same_new (by assumption) _ _ ?_; walk_at "hp")
  | (refine (by assumption : Same _ _) _ _ ?_; walk_at "hp")
  | (refine FK.tk (by assumption) (by assumption) _ _ ?_; walk_at "hp"))
local macro_rules | `(tactic| walk_at "sq") => `(tactic| first
  | assumption
  | exact FrzT.sq (by assumption)
  | (refine sqt_new (by assumption) ?_; walk_at "sq")
  | (refine sqt_same ?_ (by assumption); walk_at "sq"))
local macro_rules | `(tactic| walk_at "fz") => `(tactic| first
  | assumption
  | (refine frz_new (by assumption) ?_; walk_at "fz")
  | (refine FrzT.same ?_ (by assumption); walk_at "fz"))
local macro_rules | `(tactic| walk_at "ic") => `(tactic| first
  | ((with_reducible show (0 : Int) < _); decide)
  | exact Or.inl ⟨by decide, by decide⟩
  | exact Or.inr ⟨by decide, by decide⟩
  | exact (show (0 : Int) < _ ∧ _ < (1073741824 : Int) from ⟨by decide, by decide⟩)
  | exact (show (0 : Int) ≤ _ ∧ _ ≤ (1000000 : Int) ∧ Int.natAbs _ < 2 ^ 64 from ⟨by decide, by decide, by decide⟩)
  | exact (⟨by decide, by decide, by decide⟩ : _ ∧ _ ∧ _))
local macro_rules | `(tactic| walk_at "st") => `(tactic| first
  | with_reducible refine rd_var rfl ?_
  | with_reducible refine rd_c ?_
  | with_reducible refine rd_cons ?_
  | with_reducible refine rd_nil ?_
  | with_reducible refine rd_op ?_
  | with_reducible refine rd_cb ?_
  | with_reducible refine rd_call ?_
  | with_reducible refine rd_test ?_
  | with_reducible refine rd_B ?_
  | with_reducible refine rd_bl ?_
  | with_reducible refine rd_un ?_
  | with_reducible refine rd_and ?_
  | with_reducible refine rd_or ?_
  | with_reducible refine rd_not ?_
  | with_reducible refine rd_andV ?_
  | with_reducible refine rd_orV ?_
  | with_reducible refine rd_notV ?_
  | with_reducible refine rd_if ?_
  | with_reducible refine rd_chain ?_
  | with_reducible refine rd_I0 ?_
  | with_reducible refine rd_U ?_
  | with_reducible refine rd_eqI ?_
  | with_reducible refine rd_neI ?_
  | with_reducible refine rd_eqS ?_
  | with_reducible refine rd_neS ?_
  | with_reducible refine rd_nn ?_
  | with_reducible refine rd_asg ?_
  | with_reducible refine rd_gname ?_
  | with_reducible refine rd_seq ?_
  | with_reducible refine rd_ifS ?_
  | with_reducible refine rd_ret ?_
  | with_reducible refine rd_next ?_
  | with_reducible refine rd_cont ?_
  | with_reducible refine rd_drop ?_
  | with_reducible refine rd_par ?_
  | with_reducible refine rd_vs2 ?_
  | with_reducible refine rd_gsub ?_
  | with_reducible refine rd_gcons ?_
  | with_reducible refine rd_gnil ?_
  | with_reducible refine rd_tup ?_
  | with_reducible refine rd_lst ?_
  | with_reducible refine rd_sl ?_
  | with_reducible refine rd_part ?_
  | with_reducible refine rd_nopart ?_
  | with_reducible refine rd_i1 ?_
  | with_reducible refine rd_bm ?_
  | with_reducible refine rd_yes ?_
  | with_reducible refine rd_lcT ?_
  | with_reducible refine rd_lcL ?_
  | with_reducible refine rd_lcR1 ?_
  | with_reducible refine rd_lcS ?_
  | with_reducible refine rd_forT ?_
  | with_reducible refine rd_forL ?_
  | with_reducible refine rd_forR1 ?_
  | with_reducible refine rd_atS ?_
  | with_reducible refine rd_forEn ?_
  | with_reducible refine rd_dget ?_
  | with_reducible refine rd_din ?_
  | with_reducible refine rd_dget2 ?_
  | with_reducible refine rd_dput ?_
  | with_reducible refine rd_disp ?_
  | with_reducible refine rd_pcons ?_
  | with_reducible refine rd_pnil ?_
  | with_reducible refine rd_dcL ?_
  | with_reducible refine rd_lcEn ?_
  | with_reducible refine rd_yS ?_
  | with_reducible refine rd_m1 ?_
  | with_reducible refine rd_meth ?_
  | with_reducible refine rd_fld ?_
  | with_reducible refine rd_sfld ?_
  | with_reducible refine rd_make ?_
  | with_reducible refine rd_fmt ?_
  | with_reducible refine rd_js ?_
  | with_reducible refine rd_js0 ?_
  | with_reducible refine iteT ?_
  | with_reducible refine iteF ?_
  | ((with_reducible refine isi_int (d := ?d1) (N := ?n1) ?h1 ?_); (case h1 => assumption))
  | ((with_reducible refine isi_bool (d := ?d1) (N := ?n1) ?h1 ?_); (case h1 => assumption))
  | ((with_reducible refine isi_str (d := ?d1) (N := ?n1) ?h1 ?_); (case h1 => assumption))
  | ((with_reducible refine isi_tuple (d := ?d1) (N := ?n1) ?h1 ?_); (case h1 => assumption))
  | with_reducible refine isi_str (N := fun _ => True) (Da.str _) ?_
  | with_reducible refine isi_int (N := fun _ => True) (Da.int _) ?_
  | with_reducible refine isi_bool (N := fun _ => True) (Da.int _) ?_
  | with_reducible refine isi_str (N := fun _ => True) (Da.int _) ?_
  | ((with_reducible show (wipe _ _ = wipe _ _) ∧ _); refine ⟨rfl, ?_⟩)
  | ((with_reducible show Ends.nx _ _ _); dsimp only)
  | ((with_reducible show Ends.rt _ _ _); dsimp only)
  | ((with_reducible show Ends.ct _ _ _); dsimp only)
  | ((with_reducible refine rd_ixT (xs := ?x1) (v := ?v1) ?h1 ?e1 ?_); (case h1 => walk_at "hp"); (case e1 => rfl))
  | ((with_reducible refine rd_ixL (xs := ?x1) (v := ?v1) ?h1 ?e1 ?_); (case h1 => walk_at "hp"); (case e1 => rfl))
  | ((with_reducible refine rd_lenT (xs := ?x1) ?h1 ?_); (case h1 => walk_at "hp"))
  | ((with_reducible refine rd_lenL (xs := ?x1) ?h1 ?_); (case h1 => walk_at "hp"))
  | ((with_reducible refine rd_tupOf (xs := ?x1) ?h1 ?_); (case h1 => walk_at "hp"))
  | ((with_reducible refine rd_all (bs := ?x1) ?h1 ?_); (case h1 => walk_at "hp"))
  | ((with_reducible refine rd_atT (xs := ?x1) ?h1 ?_); (case h1 => walk_at "hp"))
  | ((with_reducible refine rd_atL (xs := ?x1) ?h1 ?_); (case h1 => walk_at "hp"))
  | ((with_reducible refine rd_gtup (xs := ?x1) ?h1 ?e1 ?_); (case h1 => walk_at "hp"); (case e1 => rfl))
  | ((with_reducible refine rd_atEn (xs := ?x1) ?h1 ?_); (case h1 => walk_at "hp"))
  | ((with_reducible refine rd_slT (xs := ?x1) ?h1 ?_); (case h1 => walk_at "hp"))
  | ((with_reducible refine rd_slL (xs := ?x1) ?h1 ?_); (case h1 => walk_at "hp"))
  | ((with_reducible refine rd_inN (N := ?x1) ?h1 ?_); (case h1 => walk_at "hp"))
  | ((with_reducible refine rd_inL (N := ?x1) ?h1 ?_); (case h1 => walk_at "hp"))
  | ((with_reducible refine rd_notInN (N := ?x1) ?h1 ?_); (case h1 => walk_at "hp"))
  | ((with_reducible refine rd_notInL (N := ?x1) ?h1 ?_); (case h1 => walk_at "hp"))
  | with_reducible refine rd_tm ?_
  | ((with_reducible refine rd_isF (xs := ?x1) ?h1 ?_); (case h1 => walk_at "fz"))
  | ((with_reducible refine rd_lenTq (xs := ?x1) ?h1 ?_); (case h1 => walk_at "sq"))
  | ((with_reducible refine rd_atTq (xs := ?x1) ?h1 ?_); (case h1 => walk_at "sq"))
  | ((with_reducible refine rd_atEnq (xs := ?x1) ?h1 ?_); (case h1 => walk_at "sq"))
  | ((with_reducible refine rd_slTq (xs := ?x1) ?h1 ?_); (case h1 => walk_at "sq"))
  | ((with_reducible refine rd_inNq (N := ?x1) ?h1 ?_); (case h1 => walk_at "sq"))
  | ((with_reducible refine rd_setL (xs := ?x1) (j := ?j1) ?h1 ?e1 ?_); (case h1 => walk_at "hp"); (case e1 => rfl))
  | with_reducible refine rd_int1 ?_
  | with_reducible refine rd_x1 ?_
  | with_reducible refine rd_x2 ?_
  | ((with_reducible refine rd_tyL (xs := ?x1) ?h1 ?_); (case h1 => walk_at "hp"))
  | ((with_reducible refine rd_ixsL (xs := ?x1) (v := ?v1) ?h1 ?e1 ?_); (case h1 => walk_at "hp"); (case e1 => rfl))
  | ((with_reducible refine rd_ixsT (xs := ?x1) (v := ?v1) ?h1 ?e1 ?_); (case h1 => walk_at "hp"); (case e1 => rfl))
  | ((with_reducible refine rd_I ?c1 ?_); (case c1 => walk_at "ic"))
  | ((with_reducible refine if_t ?hb1 ?_); (case hb1 => rfl))
  | ((with_reducible refine if_f ?hb1 ?_); (case hb1 => rfl)))
local macro_rules | `(tactic| walk_at "go") => `(tactic| repeat (first | walk_at "st" | dsimp only))
section
variable {P : Program} {w : World} {K : Frag} {mg : Str → Option Value} {base : Heap}
abbrev N_is_integer : List Str := ["value"]
theorem sc_is_integer : FnScope N_is_integer ["value"] (defScope s_is_integer) := ⟨rfl, rfl, rfl, by decide +kernel, rfl, by decide +kernel, by decide +kernel⟩
def sp_is_integer : Sp := fun vs H Q _ => ∃ N v d, vs = [v] ∧ Da N H v d ∧ Q (.bl (intD d)) H
theorem c_is_integer (S : Sys K mg) : C8.Cal P w K mg base 1 "is_integer" sp_is_integer [] := by
  refine calD S.f_D_is_integer S.g_is_integer sc_is_integer (fun _ _ _ _ _ _ us hl => match us, hl with | [_], _ => rfl) ?_ ?_
  · rintro vs H Q E ⟨Nn, v, d, rfl, _⟩
    rfl
  · rintro cdv A outer s H vs Q E hr ⟨Nn, v, d, rfl, hd, q⟩
    refine ⟨_, pss_one (ps_ret (pe_and (pe_callB (call_isiC (K := K) rfl) (by rfl) S.n_isinstance (by decide +kernel) (pa_cons (pv 0) (pa_cons (pe_bltn (v := .ty "int") (by rfl) S.n_int (by decide +kernel) rfl) pa_nil))) (pe_one (pe_not (pe_callB (call_isiC (K := K) rfl) (by rfl) S.n_isinstance (by decide +kernel) (pa_cons (pv 0) (pa_cons (pe_bltn (v := .ty "bool") (by rfl) S.n_bool (by decide +kernel) rfl) pa_nil))))))), ?_⟩
    rw [intD_eq] at q
    walk_at "go"
    refine ifb (fun h => ?_) fun h => ?_
    · walk_at "go"
      rw [h] at q
      exact q
    · rw [h] at q
      exact q
abbrev N_is_between : List Str := ["value", "least", "most"]
theorem sc_is_between : FnScope N_is_between ["value", "least", "most"] (defScope s_is_between) := ⟨rfl, rfl, rfl, by decide +kernel, rfl, by decide +kernel, by decide +kernel⟩
def btwD (lo hi : Int) : PyData → Bool
  | .int i => decide (lo ≤ i) && decide (i ≤ hi)
  | _ => false
def sp_is_between : Sp := fun vs H Q _ => ∃ N v d lo hi, vs = [v, .int lo, .int hi] ∧ Da N H v d ∧ Q (.bl (btwD lo hi d)) H
theorem c_is_between (S : Sys K mg) : C8.Cal P w K mg base 2 "is_between" sp_is_between [] := by
  refine calD S.f_D_is_between S.g_is_between sc_is_between (fun _ _ _ _ _ _ us hl => match us, hl with | [_, _, _], _ => rfl) ?_ ?_
  · rintro vs H Q E ⟨Nn, v, d, lo, hi, rfl, _⟩
    rfl
  · rintro cdv A outer s H vs Q E hr ⟨Nn, v, d, lo, hi, rfl, hd, q⟩
    refine ⟨_, pss_one (ps_ret (pe_and (C8.pe_c (c_is_integer (K := K) S) hr (by decide) rfl (pa_cons (pv 0) pa_nil)) (pe_one (pe_chain op_le op_le (pv 1) (pv 0) (pv 2))))), ?_⟩
    walk_at "go"
    refine ⟨Nn, v, d, rfl, hd, ?_⟩
    walk_at "go"
    refine ifb (fun h => ?_) fun h => ?_
    · cases d with
      | int i =>
        cases hd
        walk_at "go"
        refine ifb (fun h => ?_) fun h => ?_
        · walk_at "go"
          rw [btwD, h] at q
          exact q
        · rw [btwD, h] at q
          exact q
      | _ => cases h
    · have e : btwD lo hi d = false := by cases d <;> first | rfl | cases h
      rw [e] at q
      exact q
abbrev N_are_values : List Str := ["value", "many", "each"]
theorem sc_are_values : FnScope N_are_values ["value", "many"] (defScope s_are_values) := ⟨rfl, rfl, rfl, by decide +kernel, rfl, by decide +kernel, by decide +kernel⟩
def areVals (n : Nat) : PyData → Bool
  | .tuple ds => decide (ds.length = n) && ds.all (btwD (-1000000000) 1000000000)
  | _ => false
def sp_are_values : Sp := fun vs H Q _ => ∃ N v d, ∃ n : Nat, vs = [v, .int n] ∧ Da N H v d ∧ (∀ ds, d = .tuple ds → ds.length ≤ 1000) ∧ ∀ H', Same H H' → Q (.bl (areVals n d)) H'
theorem c_are_values (S : Sys K mg) : C8.Cal P w K mg base 3 "are_values" sp_are_values [] := by
  refine calD S.f_D_are_values S.g_are_values sc_are_values (fun _ _ _ _ _ _ us hl => match us, hl with | [_, _], _ => rfl) ?_ ?_
  · rintro vs H Q E ⟨Nn, v, d, n, rfl, _⟩
    rfl
  · rintro cdv A outer s H vs Q E hr ⟨Nn, v, d, n, rfl, hd, hl, q⟩
    refine ⟨_, pss_cons (ps_if (PW.pt (pw_or (pt_not (pt_val (pe_callB (call_isiC (K := K) rfl) (by rfl) S.n_isinstance (by decide +kernel) (pa_cons (pv 0) (pa_cons (pe_bltn (v := .ty "tuple") (by rfl) S.n_tuple (by decide +kernel) rfl) pa_nil))))) (pw_or1 (pt_cmpR op_ne (pe_callB (call_len_seqC (K := K) rfl) (by rfl) S.n_len (by decide +kernel) (pa_cons (pv 0) pa_nil)) (pv 1) (nomark _))))) (pss_one (ps_ret pe_bl)) pss_nil)
      (pss_one (ps_ret (pe_callB (cr_allC (K := K) rfl rfl) (by rfl) S.n_all (by decide +kernel) (pa_cons (pe_lc (own := [("each", 2)]) (g := gName 2) (tt := tYes) rfl sc_are_values.nd (pi_tupC (K := K) rfl (pv 0)) (blkOk_by (N := N_are_values) (sc := defScope s_are_values) (by decide +kernel)) (fun _ _ _ _ _ => (pg_name (i := 2) sc_are_values.nd rfl (Or.inl rfl))) (fun _ _ _ _ _ => pts_nil) (fun _ _ _ _ _ => (C8.pe_c (c_is_between (K := K) S) hr (by decide) rfl (pa_cons (pv 2) (pa_cons (pe_un un_neg (C8.pe_gc rfl (S.i_MOST_VALUE))) (pa_cons (C8.pe_gc rfl (S.i_MOST_VALUE)) pa_nil)))))) pa_nil)))), ?_⟩
    walk_at "go"
    refine ifb (fun h => ?_) fun h => ?_
    · have e : areVals n d = false := by cases d <;> first | rfl | cases h
      rw [e] at q
      walk_at "go"
      exact q _ (Same.refl H)
    · cases d with
      | tuple ds =>
        obtain ⟨a, xs, rfl, ha, hda⟩ := hd.tupInv
        have hlen := hda.len
        have hl2 := hl ds rfl
        walk_at "go"
        rw [hlen]
        refine ifb (fun h => ?_) fun h => ?_
        · have e : areVals n (.tuple ds) = false := by
            show (decide (ds.length = n) && ds.all (btwD (-1000000000) 1000000000)) = false
            rw [decide_eq_false, Bool.false_and]
            intro z
            subst z
            simp at h
          rw [e] at q
          walk_at "go"
          exact q _ (Same.refl H)
        · walk_at "go"
          refine lcM walk_tup ((ds.map (btwD (-1000000000) 1000000000)).map V.bl) (by simp [hlen]) (by omega) (fun H1 s => .inl (.inl (s _ _ ha))) (fun j x H1 H1' y hj s hY hy Qy Qn hQ => ?_) fun L H1 hL s e => ?_
          · obtain ⟨rfl, hx⟩ := hY
            obtain ⟨dx, h1, h2⟩ := hda.get hx
            rw [List.getElem?_map, List.getElem?_map, h1] at hy
            cases hy
            walk_at "go"
            refine ⟨Nn, x, dx, _, _, rfl, h2.same s, ?_⟩
            walk_at "go"
            exact hQ _ (Same.refl _)
          · walk_at "go"
            have e2 : areVals n (.tuple ds) = (ds.map (btwD (-1000000000) 1000000000)).all id := by
              have e3 : ds.length = n := by
                simp at h
                omega
              show (decide (ds.length = n) && ds.all (btwD (-1000000000) 1000000000)) = _
              rw [decide_eq_true e3, Bool.true_and, List.all_map] <;> rfl
            rw [e2] at q
            exact q _ s
      | _ => cases h
end
end K59
/-! K59Data -/
set_option Elab.async false
set_option linter.all false
set_option maxRecDepth 100000
set_option maxHeartbeats 4000000
namespace K59
open PySem PySem.W PySem.Calls PySem.Spec PyProof.Rows L2
/-! ### rules, forms -/
inductive Rl where
  | gap (x y : Str) (c : Int)
  | most (x : Str) (c : Int)
  | least (x : Str) (c : Int)
def eS : Str := ""
def Rl.hi : Rl → Str
  | .gap x _ _ => x
  | .most x _ => x
  | .least _ _ => eS
def Rl.lo : Rl → Str
  | .gap _ y _ => y
  | .most _ _ => eS
  | .least x _ => x
def Rl.bd : Rl → Int
  | .gap _ _ c => c
  | .most _ c => c
  | .least _ c => -c
/-- a rule's own number -/
def Rl.num : Rl → Int
  | .gap _ _ c => c
  | .most _ c => c
  | .least _ c => c
/-- the tuple of a rule -/
def rv : Rl → List V
  | .gap x y c => [.str "gap", .str x, .str y, .int c]
  | .most x c => [.str "most", .str x, .int c]
  | .least x c => [.str "least", .str x, .int c]
/-- a rule over names -/
def RlOk (N : List Str) : Rl → Prop
  | .gap x y c => x ∈ N ∧ y ∈ N ∧ x ≠ y ∧ -1000 ≤ c ∧ c ≤ 1000
  | .most x c => x ∈ N ∧ -1000 ≤ c ∧ c ≤ 1000
  | .least x c => x ∈ N ∧ -1000 ≤ c ∧ c ≤ 1000
def menu : List Str := ["a", "b", "c", "begin", "end", "fields", "none", "yes", "no", "least", "most", "gap", "once", "order", "x", "zzzzzzzz"]
structure FormOk (N : List Str) (R : List Rl) : Prop where
  n1 : 1 ≤ N.length
  n5 : N.length ≤ 5
  nd : N.Nodup
  mn : ∀ x ∈ N, x ∈ menu
  r9 : R.length ≤ 9
  rl : ∀ r ∈ R, RlOk N r
theorem menu_ne : ∀ x ∈ menu, x ≠ eS := by decide +kernel
theorem FormOk.ne {N : List Str} {R : List Rl} (f : FormOk N R) : ∀ x ∈ N, x ≠ eS := fun x h => menu_ne x (f.mn x h)
theorem Rl.num_bd (r : Rl) (N : List Str) (h : RlOk N r) : -1000 ≤ r.num ∧ r.num ≤ 1000 := by
  cases r with
  | gap x y c => exact ⟨h.2.2.2.1, h.2.2.2.2⟩
  | most x c => exact h.2
  | least x c => exact h.2
theorem RlOk.bd {r : Rl} {N : List Str} (h : RlOk N r) : -1000 ≤ r.bd ∧ r.bd ≤ 1000 := by
  cases r with
  | gap x y c => exact ⟨h.2.2.2.1, h.2.2.2.2⟩
  | most x c => exact h.2
  | least x c =>
    have := h.2
    show -1000 ≤ -c ∧ -c ≤ 1000
    omega
theorem RlOk.hi {r : Rl} {N : List Str} (h : RlOk N r) : r.hi ∈ eS :: N := by
  cases r with
  | gap x y c => exact List.mem_cons_of_mem _ h.1
  | most x c => exact List.mem_cons_of_mem _ h.1
  | least x c => exact List.mem_cons_self
theorem RlOk.lo {r : Rl} {N : List Str} (h : RlOk N r) : r.lo ∈ eS :: N := by
  cases r with
  | gap x y c => exact List.mem_cons_of_mem _ h.2.1
  | most x c => exact List.mem_cons_self
  | least x c => exact List.mem_cons_of_mem _ h.1
/-- the rules' tuples lie at these addresses -/
def RlsAt (H : Hp) (as : List Addr) (R : List Rl) : Prop := as.length = R.length ∧ ∀ (i : Nat) (a : Addr) (r : Rl), as[i]? = some a → R[i]? = some r → H a = some (.tup (rv r))
theorem RlsAt.tk {H H' : Hp} {as : List Addr} {R : List Rl} (h : RlsAt H as R) (t : TK H H') : RlsAt H' as R := ⟨h.1, fun i a r e1 e2 => t _ _ (h.2 i a r e1 e2)⟩
theorem RlsAt.nil {H : Hp} : RlsAt H [] [] := ⟨rfl, fun i a r h _ => by simp at h⟩
theorem RlsAt.snoc {H : Hp} {as : List Addr} {R : List Rl} {a : Addr} {r : Rl} (h : RlsAt H as R) (e : H a = some (.tup (rv r))) : RlsAt H (as ++ [a]) (R ++ [r]) := by
  refine ⟨by rw [List.length_append, List.length_append, h.1] <;> rfl, fun i b q e1 e2 => ?_⟩
  by_cases hi : i < as.length
  · rw [List.getElem?_append_left hi] at e1
    rw [List.getElem?_append_left (h.1 ▸ hi)] at e2
    exact h.2 i b q e1 e2
  · have hi2 : i = as.length := by
      have := (List.getElem?_eq_some_iff.mp e1).1
      rw [List.length_append, List.length_singleton] at this
      omega
    rw [hi2, List.getElem?_concat_length] at e1
    rw [hi2, h.1, List.getElem?_concat_length] at e2
    cases e1
    cases e2
    exact e
theorem RlsAt.get {H : Hp} {as : List Addr} {R : List Rl} {i : Nat} {v : V} (h : RlsAt H as R) (e : (as.map V.ref)[i]? = some v) : ∃ a r, v = .ref a ∧ as[i]? = some a ∧ R[i]? = some r ∧ H a = some (.tup (rv r)) := by
  rw [List.getElem?_map] at e
  cases ha : as[i]? with
  | none =>
    rw [ha] at e
    cases e
  | some a =>
    rw [ha] at e
    cases e
    have hi : i < R.length := h.1 ▸ (List.getElem?_eq_some_iff.mp ha).1
    exact ⟨a, R[i], rfl, rfl, List.getElem?_eq_getElem hi, h.2 i a _ ha (List.getElem?_eq_getElem hi)⟩
/-- a shape of the law: its names, its rules -/
structure ShapeAt (H : Hp) (p : Addr) (N : List Str) (R : List Rl) : Prop where
  ex : ∃ pf pr as, H p = some (.tup [.ref pf, .ref pr]) ∧ H pf = some (.tup (N.map V.str)) ∧ H pr = some (.tup (as.map V.ref)) ∧ RlsAt H as R
theorem ShapeAt.tk {H H' : Hp} {p : Addr} {N : List Str} {R : List Rl} (h : ShapeAt H p N R) (t : TK H H') : ShapeAt H' p N R := by
  obtain ⟨pf, pr, as, h1, h2, h3, h4⟩ := h.ex
  exact ⟨⟨pf, pr, as, t _ _ h1, t _ _ h2, t _ _ h3, h4.tk t⟩⟩
/-! ### texts -/
def rowOf : Rl → List Str
  | .gap x y c => [x, "-", y, "<=", toString c]
  | .most x c => [x, "<=", toString c]
  | .least x c => [x, ">=", toString c]
def rowS (r : Rl) : Str := Txt.join " " (rowOf r)
def headS (N : List Str) : Str := ("fields " : Str) ++ Txt.join ", " N
def pageS (N : List Str) (R : List Rl) : Str := Txt.join "\n" (headS N :: R.map rowS)
end K59
/-! K59Text -/
set_option Elab.async false
set_option linter.all false
set_option maxRecDepth 100000
set_option maxHeartbeats 4000000
namespace K59
open PySem PySem.W PySem.Calls PySem.Spec PyProof.Rows L2
abbrev numS (c : Int) : Str := toString c
def sgn : Str := "0123456789"
def ltr : Str := "abcdefghijklmnopqrstuvwxyz"
theorem tl_neg (m : Nat) : TL.tl (numS (Int.negSucc m)) = 45 :: TL.numL (m + 1) := by
  have e : (toString (Int.negSucc m) : String) = "-" ++ toString (((m + 1 : Nat) : Int)) := rfl
  show TL.tl (Str.ofString (toString (Int.negSucc m))) = _
  show (Str.ofString (toString (Int.negSucc m))).cps.toList = _
  rw [e, signs_ofString, String.toList_append, List.map_append, ← signs_ofString, ← signs_ofString]
  show 45 :: TL.tl (Str.ofString (toString ((m + 1 : Nat) : Int))) = _
  rw [TL.tl_num]
theorem sgn_in : ∀ d : Nat, d < 58 → 48 ≤ d → d ∈ TL.tl sgn := by decide +kernel
/-- what integer_in asks of the text of a small number -/
theorem num_parts {c : Int} (h1 : -1000 ≤ c) (h2 : c ≤ 1000) : ∃ s : Str, (if Txt.slice (numS c) none (some 1) = ("-" : Str) then Txt.slice (numS c) (some 1) none else numS c) = s ∧ s ≠ "" ∧ s.length ≤ 4 ∧ (∀ d ∈ TL.tl s, d ∈ TL.tl sgn) ∧
    PySem.intText? (numS c) = some c ∧ (numS c).length ≤ 5 := by
  have dig : ∀ n, ∀ d ∈ TL.numL n, d ∈ TL.tl sgn := fun n d hd => by
    have := TL.numL_digits n d hd
    exact sgn_in d (by omega) this.1
  have emp : ∀ n, SX.S (TL.numL n) ≠ ("" : Str) := fun n z => TL.numL_ne n (by
    have e : TL.tl (SX.S (TL.numL n)) = TL.tl ("" : Str) := by rw [z]
    exact e)
  cases c with
  | ofNat n =>
    have et : TL.tl (numS (Int.ofNat n)) = TL.numL n := TL.tl_num n
    have eS : numS (Int.ofNat n) = SX.S (TL.numL n) := TL.ext_tl et
    have hl : (TL.numL n).length ≤ 4 := TL.numL_len (by decide) (by
      have : (n : Int) ≤ 1000 := h2
      omega)
    have hs : ¬ Txt.slice (numS (Int.ofNat n)) none (some 1) = ("-" : Str) := fun z => by
      rw [eS, SX.slice_to (by decide)] at z
      have z2 : (TL.numL n).take 1 = [45] := SX.S_inj z
      exact TL.numL_free (n := n) (s := 45) (by decide) (List.mem_of_mem_take (by rw [z2]; exact List.mem_singleton_self 45 : 45 ∈ (TL.numL n).take 1))
    refine ⟨_, if_neg hs, ?_, ?_, ?_, ?_, ?_⟩
    · rw [eS]
      exact emp n
    · rw [TL.len_tl, et]
      exact hl
    · rw [et]
      exact dig n
    · exact TL.int_num (by omega)
    · rw [TL.len_tl, et]
      omega
  | negSucc m =>
    have et := tl_neg m
    have eS : numS (Int.negSucc m) = SX.S ([45] ++ TL.numL (m + 1)) := TL.ext_tl et
    have hl : (TL.numL (m + 1)).length ≤ 4 := TL.numL_len (by decide) (by omega)
    have hs : Txt.slice (numS (Int.negSucc m)) none (some 1) = ("-" : Str) := by
      rw [eS, SX.to_app [45] _ (i := 1) rfl] <;> rfl
    have hr : Txt.slice (numS (Int.negSucc m)) (some 1) none = SX.S (TL.numL (m + 1)) := by rw [eS, SX.from_app [45] _ (i := 1) rfl]
    refine ⟨_, (if_pos hs).trans hr, emp _, ?_, dig _, ?_, ?_⟩
    · rw [SX.S_len]
      exact hl
    · have e := intText_neg (x := numS (Int.negSucc m)) et (TL.numL_digits _) (TL.numL_ne _) (by rw [TL.len_tl, et, List.length_cons]; omega)
      rw [TL.numL_val] at e
      rw [e] <;> rfl
    · rw [TL.len_tl, et, List.length_cons]
      omega
theorem numS_len {c : Int} (h1 : -1000 ≤ c) (h2 : c ≤ 1000) : (numS c).length ≤ 5 := by
  obtain ⟨_, _, _, _, _, _, h⟩ := num_parts h1 h2
  exact h
theorem numS_free (k : Nat) (hk : k ≠ 45 ∧ (k < 48 ∨ 57 < k)) (c : Int) : k ∉ TL.tl (numS c) := int_text_free' k hk c
theorem menu_len : ∀ x ∈ menu, x.length ≤ 8 := by decide +kernel
theorem menu_pos : ∀ x ∈ menu, 1 ≤ x.length := by decide +kernel
theorem menu_ltr : ∀ x ∈ menu, (x.cps.toList.all fun c => decide (c ∈ ltr.cps.toList)) = true := by decide +kernel
theorem menu_10 : ∀ x ∈ menu, 10 ∉ TL.tl x := by decide +kernel
theorem menu_32 : ∀ x ∈ menu, 32 ∉ TL.tl x := by decide +kernel
theorem menu_44 : ∀ x ∈ menu, 44 ∉ TL.tl x := by decide +kernel
/-! ### joins -/
theorem mem_joinL {c : Nat} {s : List Nat} : ∀ {ys : List (List Nat)}, c ∈ TL.joinL s ys → c ∈ s ∨ ∃ y ∈ ys, c ∈ y
  | [], h => by cases h
  | [p], h => .inr ⟨p, List.mem_singleton_self p, h⟩
  | p :: q :: r, h => by
    have h : c ∈ p ++ (s ++ TL.joinL s (q :: r)) := h
    rcases List.mem_append.mp h with h | h
    · exact .inr ⟨p, List.mem_cons_self, h⟩
    · rcases List.mem_append.mp h with h | h
      · exact .inl h
      · rcases mem_joinL h with h | ⟨y, h1, h2⟩
        · exact .inl h
        · exact .inr ⟨y, List.mem_cons_of_mem _ h1, h2⟩
theorem tl_joinT (s : Str) (ys : List Str) : TL.tl (Txt.join s ys) = TL.joinL (TL.tl s) (ys.map TL.tl) := by
  rw [TL.join_eq]
  exact TL.tl_join s ys
theorem not_join {c : Nat} {s : Str} {ys : List Str} (h1 : c ∉ TL.tl s) (h2 : ∀ y ∈ ys, c ∉ TL.tl y) : c ∉ TL.tl (Txt.join s ys) := fun h => by
  rw [tl_joinT] at h
  rcases mem_joinL h with h | ⟨y, hy, h⟩
  · exact h1 h
  · obtain ⟨z, hz, e⟩ := List.mem_map.mp hy
    rw [← e] at h
    exact h2 z hz h
theorem joinL_len (s : List Nat) (m : Nat) : ∀ ys : List (List Nat), (∀ y ∈ ys, y.length ≤ m) → (TL.joinL s ys).length ≤ ys.length * (m + s.length)
  | [], _ => Nat.zero_le _
  | [p], h => by
    have := h p (List.mem_singleton_self p)
    show p.length ≤ 1 * (m + s.length)
    omega
  | p :: q :: r, h => by
    have h1 := h p List.mem_cons_self
    have h2 := joinL_len s m (q :: r) fun y hy => h y (List.mem_cons_of_mem _ hy)
    show (p ++ (s ++ TL.joinL s (q :: r))).length ≤ (q :: r).length.succ * (m + s.length)
    rw [List.length_append, List.length_append, Nat.succ_mul]
    omega
theorem join_len {s : Str} {m : Nat} {ys : List Str} (h : ∀ y ∈ ys, y.length ≤ m) : (Txt.join s ys).length ≤ ys.length * (m + s.length) := by
  rw [TL.len_tl, tl_joinT, TL.len_tl s]
  have := joinL_len (TL.tl s) m (ys.map TL.tl) fun y hy => by
    obtain ⟨z, hz, e⟩ := List.mem_map.mp hy
    rw [← e, ← TL.len_tl]
    exact h z hz
  rw [List.length_map] at this
  exact this
/-! ### the rows -/
section
variable {N : List Str} {R : List Rl} {r : Rl}
theorem row_word (mn : ∀ x ∈ N, x ∈ menu) (h : RlOk N r) {k : Nat} (hk : ∀ x ∈ menu, k ∉ TL.tl x) (h2 : k ≠ 45 ∧ (k < 48 ∨ 57 < k)) (h3 : k ∉ TL.tl "<=" ∧ k ∉ TL.tl ">=" ∧ k ∉ TL.tl "-") : ∀ y ∈ rowOf r, k ∉ TL.tl y := by
  intro y hy
  cases r with
  | gap x z c =>
    have hy : y = x ∨ y = "-" ∨ y = z ∨ y = "<=" ∨ y = numS c := by simpa only [rowOf, List.mem_cons, List.not_mem_nil, or_false] using hy
    rcases hy with rfl | rfl | rfl | rfl | rfl
    · exact hk _ (mn _ h.1)
    · exact h3.2.2
    · exact hk _ (mn _ h.2.1)
    · exact h3.1
    · exact numS_free k h2 c
  | most x c =>
    have hy : y = x ∨ y = "<=" ∨ y = numS c := by simpa only [rowOf, List.mem_cons, List.not_mem_nil, or_false] using hy
    rcases hy with rfl | rfl | rfl
    · exact hk _ (mn _ h.1)
    · exact h3.1
    · exact numS_free k h2 c
  | least x c =>
    have hy : y = x ∨ y = ">=" ∨ y = numS c := by simpa only [rowOf, List.mem_cons, List.not_mem_nil, or_false] using hy
    rcases hy with rfl | rfl | rfl
    · exact hk _ (mn _ h.1)
    · exact h3.2.1
    · exact numS_free k h2 c
theorem row_split (mn : ∀ x ∈ N, x ∈ menu) (h : RlOk N r) : Txt.split (rowS r) " " = rowOf r :=
  TL.split_join (s := 32) (S := []) rfl (by decide +kernel) (by cases r <;> exact List.cons_ne_nil _ _) (row_word mn h menu_32 (by decide) (by decide +kernel))
theorem row_10 (mn : ∀ x ∈ N, x ∈ menu) (h : RlOk N r) : 10 ∉ TL.tl (rowS r) := not_join (by decide +kernel) (row_word mn h menu_10 (by decide) (by decide +kernel))
theorem row_len (mn : ∀ x ∈ N, x ∈ menu) (h : RlOk N r) : (rowS r).length ≤ 45 := by
  have hw : ∀ y ∈ rowOf r, y.length ≤ 8 := by
    intro y hy
    cases r with
    | gap x z c =>
      have hy : y = x ∨ y = "-" ∨ y = z ∨ y = "<=" ∨ y = numS c := by simpa only [rowOf, List.mem_cons, List.not_mem_nil, or_false] using hy
      rcases hy with rfl | rfl | rfl | rfl | rfl
      · exact menu_len _ (mn _ h.1)
      · decide +kernel
      · exact menu_len _ (mn _ h.2.1)
      · decide +kernel
      · exact Nat.le_trans (numS_len h.2.2.2.1 h.2.2.2.2) (by decide)
    | most x c =>
      have hy : y = x ∨ y = "<=" ∨ y = numS c := by simpa only [rowOf, List.mem_cons, List.not_mem_nil, or_false] using hy
      rcases hy with rfl | rfl | rfl
      · exact menu_len _ (mn _ h.1)
      · decide +kernel
      · exact Nat.le_trans (numS_len h.2.1 h.2.2) (by decide)
    | least x c =>
      have hy : y = x ∨ y = ">=" ∨ y = numS c := by simpa only [rowOf, List.mem_cons, List.not_mem_nil, or_false] using hy
      rcases hy with rfl | rfl | rfl
      · exact menu_len _ (mn _ h.1)
      · decide +kernel
      · exact Nat.le_trans (numS_len h.2.1 h.2.2) (by decide)
  have e := join_len (s := " ") hw
  have l : (rowOf r).length ≤ 5 := by
    cases r with
    | gap x y c => exact Nat.le_refl 5
    | most x c => exact (show 3 ≤ 5 by decide)
    | least x c => exact (show 3 ≤ 5 by decide)
  have e1 : (" " : Str).length = 1 := by decide +kernel
  rw [e1] at e
  have : (rowOf r).length * (8 + 1) ≤ 5 * 9 := Nat.mul_le_mul_right 9 l
  exact Nat.le_trans e this
theorem names_len (f : FormOk N R) : (Txt.join ", " N).length ≤ 50 := by
  have e := join_len (s := ", ") (ys := N) fun y hy => menu_len _ (f.mn _ hy)
  have e1 : (", " : Str).length = 2 := by decide +kernel
  rw [e1] at e
  have : N.length * (8 + 2) ≤ 5 * 10 := Nat.mul_le_mul_right 10 f.n5
  exact Nat.le_trans e this
theorem fields_len : ("fields " : Str).length = 7 := by decide +kernel
theorem head_len (f : FormOk N R) : (headS N).length ≤ 57 := by
  have e := names_len f
  unfold headS
  rw [TL.len_tl, TL.tl_append, List.length_append, ← TL.len_tl, ← TL.len_tl, fields_len]
  omega
theorem head_10 (f : FormOk N R) : 10 ∉ TL.tl (headS N) := by
  unfold headS
  intro h
  rw [TL.tl_append] at h
  rcases List.mem_append.mp h with h | h
  · exact absurd h (by decide +kernel)
  · exact not_join (by decide +kernel) (fun y hy => menu_10 _ (f.mn _ hy)) h
theorem page_split (f : FormOk N R) : Txt.split (pageS N R) "\n" = headS N :: R.map rowS :=
  TL.split_join (s := 10) (S := []) rfl (by decide +kernel) (List.cons_ne_nil _ _) fun p hp => by
    rcases List.mem_cons.mp hp with rfl | hp
    · exact head_10 f
    · obtain ⟨r, hr, rfl⟩ := List.mem_map.mp hp
      exact row_10 f.mn (f.rl r hr)
theorem page_len (f : FormOk N R) : (pageS N R).length ≤ 600 := by
  have e := join_len (s := "\n") (m := 57) (ys := headS N :: R.map rowS) fun y hy => by
    rcases List.mem_cons.mp hy with rfl | hy
    · exact head_len f
    · obtain ⟨r, hr, rfl⟩ := List.mem_map.mp hy
      exact Nat.le_trans (row_len f.mn (f.rl r hr)) (by decide)
  have e1 : ("\n" : Str).length = 1 := by decide +kernel
  rw [e1, List.length_cons, List.length_map] at e
  have : (R.length + 1) * (57 + 1) ≤ 10 * 58 := Nat.mul_le_mul_right 58 (by have := f.r9; omega)
  exact Nat.le_trans e (by omega)
theorem names_split (f : FormOk N R) : Txt.split (Txt.join ", " N) ", " = N :=
  TL.split_join (s := 44) (S := [32]) rfl (by decide +kernel) (fun z => by have := f.n1; rw [z] at this; exact absurd this (by decide)) fun p hp => menu_44 _ (f.mn _ hp)
theorem head_names (N : List Str) : Txt.slice (headS N) (some 7) none = Txt.join ", " N := by
  have e : headS N = SX.S (TL.tl "fields " ++ TL.tl (Txt.join ", " N)) := TL.ext_tl (TL.tl_append _ _)
  rw [e, SX.from_app _ _ (show (7 : Int) = ((TL.tl "fields ").length : Int) by decide +kernel)]
end
/-! ### the same row, as it is glued -/
theorem row_gap (x y : Str) (c : Int) : rowS (.gap x y c) = Txt.join " - " [x, y] ++ " <= " ++ numS c := by
  refine TL.ext_tl ?_
  rw [rowS, tl_joinT, TL.tl_append, TL.tl_append, tl_joinT]
  show TL.tl x ++ (TL.tl " " ++ (TL.tl "-" ++ (TL.tl " " ++ (TL.tl y ++ (TL.tl " " ++ (TL.tl "<=" ++ (TL.tl " " ++ TL.tl (numS c)))))))) = (TL.tl x ++ (TL.tl " - " ++ TL.tl y)) ++ TL.tl " <= " ++ TL.tl (numS c)
  rw [show TL.tl " - " = TL.tl " " ++ (TL.tl "-" ++ TL.tl " ") by decide +kernel, show TL.tl " <= " = TL.tl " " ++ (TL.tl "<=" ++ TL.tl " ") by decide +kernel]
  simp only [List.append_assoc]
theorem row_most (x : Str) (c : Int) : rowS (.most x c) = Txt.join " - " [x] ++ " <= " ++ numS c := by
  refine TL.ext_tl ?_
  rw [rowS, tl_joinT, TL.tl_append, TL.tl_append, tl_joinT]
  show TL.tl x ++ (TL.tl " " ++ (TL.tl "<=" ++ (TL.tl " " ++ TL.tl (numS c)))) = TL.tl x ++ TL.tl " <= " ++ TL.tl (numS c)
  rw [show TL.tl " <= " = TL.tl " " ++ (TL.tl "<=" ++ TL.tl " ") by decide +kernel]
  simp only [List.append_assoc]
theorem row_least (x : Str) (c : Int) : rowS (.least x c) = Txt.join " - " [x] ++ " >= " ++ numS c := by
  refine TL.ext_tl ?_
  rw [rowS, tl_joinT, TL.tl_append, TL.tl_append, tl_joinT]
  show TL.tl x ++ (TL.tl " " ++ (TL.tl ">=" ++ (TL.tl " " ++ TL.tl (numS c)))) = TL.tl x ++ TL.tl " >= " ++ TL.tl (numS c)
  rw [show TL.tl " >= " = TL.tl " " ++ (TL.tl ">=" ++ TL.tl " ") by decide +kernel]
  simp only [List.append_assoc]
theorem row_gapF (x y : Str) (c : Int) : Str.empty ++ x ++ " - " ++ y ++ " <= " ++ numS c = rowS (.gap x y c) := by
  rw [row_gap]
  refine TL.ext_tl ?_
  simp only [TL.tl_append, tl_joinT, List.map_cons, List.map_nil, TL.joinL, List.append_assoc]
  rfl
theorem row_mostF (x : Str) (c : Int) : Str.empty ++ x ++ " <= " ++ numS c = rowS (.most x c) := by
  rw [row_most]
  refine TL.ext_tl ?_
  simp only [TL.tl_append, tl_joinT, List.map_cons, List.map_nil, TL.joinL, List.append_assoc]
  rfl
theorem row_leastF (x : Str) (c : Int) : Str.empty ++ x ++ " >= " ++ numS c = rowS (.least x c) := by
  rw [row_least]
  refine TL.ext_tl ?_
  simp only [TL.tl_append, tl_joinT, List.map_cons, List.map_nil, TL.joinL, List.append_assoc]
  rfl
end K59
/-! K59P2 -/
set_option Elab.async false
set_option linter.all false
set_option maxRecDepth 100000
set_option maxHeartbeats 4000000
namespace K59
open PySem PySem.W PySem.Calls PySem.Spec PyProof.Rows L2
local macro_rules | `(tactic| walk_at "hp") => `(tactic| first
  | assumption
  | exact upd_same
  | (refine same_new (by assumption) _ _ ?_; walk_at "hp")
  | (refine (by assumption : Same _ _) _ _ ?_; walk_at "hp")
  | (refine FK.tk (by assumption) (by assumption) _ _ ?_; walk_at "hp"))
local macro_rules | `(tactic| walk_at "sq") => `(tactic| first
  | assumption
  | exact FrzT.sq (by assumption)
  | (refine sqt_new (by assumption) ?_; walk_at "sq")
  | (refine sqt_same ?_ (by assumption); walk_at "sq"))
local macro_rules | `(tactic| walk_at "fz") => `(tactic| first
  | assumption
  | (refine frz_new (by assumption) ?_; walk_at "fz")
  | (refine FrzT.same ?_ (by assumption); walk_at "fz"))
local macro_rules | `(tactic| walk_at "ic") => `(tactic| first
  | ((with_reducible show (0 : Int) < _); decide)
  | exact Or.inl ⟨by decide, by decide⟩
  | exact Or.inr ⟨by decide, by decide⟩
  | exact (show (0 : Int) < _ ∧ _ < (1073741824 : Int) from ⟨by decide, by decide⟩)
  | exact (show (0 : Int) ≤ _ ∧ _ ≤ (1000000 : Int) ∧ Int.natAbs _ < 2 ^ 64 from ⟨by decide, by decide, by decide⟩)
  | exact (⟨by decide, by decide, by decide⟩ : _ ∧ _ ∧ _))
local macro_rules | `(tactic| walk_at "st") => `(tactic| first
  | with_reducible refine rd_var rfl ?_
  | with_reducible refine rd_c ?_
  | with_reducible refine rd_cons ?_
  | with_reducible refine rd_nil ?_
  | with_reducible refine rd_op ?_
  | with_reducible refine rd_cb ?_
  | with_reducible refine rd_call ?_
  | with_reducible refine rd_test ?_
  | with_reducible refine rd_B ?_
  | with_reducible refine rd_bl ?_
  | with_reducible refine rd_un ?_
  | with_reducible refine rd_and ?_
  | with_reducible refine rd_or ?_
  | with_reducible refine rd_not ?_
  | with_reducible refine rd_andV ?_
  | with_reducible refine rd_orV ?_
  | with_reducible refine rd_notV ?_
  | with_reducible refine rd_if ?_
  | with_reducible refine rd_chain ?_
  | with_reducible refine rd_I0 ?_
  | with_reducible refine rd_U ?_
  | with_reducible refine rd_eqI ?_
  | with_reducible refine rd_neI ?_
  | with_reducible refine rd_eqS ?_
  | with_reducible refine rd_neS ?_
  | with_reducible refine rd_nn ?_
  | with_reducible refine rd_asg ?_
  | with_reducible refine rd_gname ?_
  | with_reducible refine rd_seq ?_
  | with_reducible refine rd_ifS ?_
  | with_reducible refine rd_ret ?_
  | with_reducible refine rd_next ?_
  | with_reducible refine rd_cont ?_
  | with_reducible refine rd_drop ?_
  | with_reducible refine rd_par ?_
  | with_reducible refine rd_vs2 ?_
  | with_reducible refine rd_gsub ?_
  | with_reducible refine rd_gcons ?_
  | with_reducible refine rd_gnil ?_
  | with_reducible refine rd_tup ?_
  | with_reducible refine rd_lst ?_
  | with_reducible refine rd_sl ?_
  | with_reducible refine rd_part ?_
  | with_reducible refine rd_nopart ?_
  | with_reducible refine rd_i1 ?_
  | with_reducible refine rd_bm ?_
  | with_reducible refine rd_yes ?_
  | with_reducible refine rd_lcT ?_
  | with_reducible refine rd_lcL ?_
  | with_reducible refine rd_lcR1 ?_
  | with_reducible refine rd_lcS ?_
  | with_reducible refine rd_forT ?_
  | with_reducible refine rd_forL ?_
  | with_reducible refine rd_forR1 ?_
  | with_reducible refine rd_atS ?_
  | with_reducible refine rd_forEn ?_
  | with_reducible refine rd_dget ?_
  | with_reducible refine rd_din ?_
  | with_reducible refine rd_dget2 ?_
  | with_reducible refine rd_dput ?_
  | with_reducible refine rd_disp ?_
  | with_reducible refine rd_pcons ?_
  | with_reducible refine rd_pnil ?_
  | with_reducible refine rd_dcL ?_
  | with_reducible refine rd_lcEn ?_
  | with_reducible refine rd_yS ?_
  | with_reducible refine rd_m1 ?_
  | with_reducible refine rd_meth ?_
  | with_reducible refine rd_fld ?_
  | with_reducible refine rd_sfld ?_
  | with_reducible refine rd_make ?_
  | with_reducible refine rd_fmt ?_
  | with_reducible refine rd_js ?_
  | with_reducible refine rd_js0 ?_
  | with_reducible refine iteT ?_
  | with_reducible refine iteF ?_
  | ((with_reducible refine isi_int (d := ?d1) (N := ?n1) ?h1 ?_); (case h1 => assumption))
  | ((with_reducible refine isi_bool (d := ?d1) (N := ?n1) ?h1 ?_); (case h1 => assumption))
  | ((with_reducible refine isi_str (d := ?d1) (N := ?n1) ?h1 ?_); (case h1 => assumption))
  | ((with_reducible refine isi_tuple (d := ?d1) (N := ?n1) ?h1 ?_); (case h1 => assumption))
  | with_reducible refine isi_str (N := fun _ => True) (Da.str _) ?_
  | with_reducible refine isi_int (N := fun _ => True) (Da.int _) ?_
  | with_reducible refine isi_bool (N := fun _ => True) (Da.int _) ?_
  | with_reducible refine isi_str (N := fun _ => True) (Da.int _) ?_
  | ((with_reducible show (wipe _ _ = wipe _ _) ∧ _); refine ⟨rfl, ?_⟩)
  | ((with_reducible show Ends.nx _ _ _); dsimp only)
  | ((with_reducible show Ends.rt _ _ _); dsimp only)
  | ((with_reducible show Ends.ct _ _ _); dsimp only)
  | ((with_reducible refine rd_ixT (xs := ?x1) (v := ?v1) ?h1 ?e1 ?_); (case h1 => walk_at "hp"); (case e1 => rfl))
  | ((with_reducible refine rd_ixL (xs := ?x1) (v := ?v1) ?h1 ?e1 ?_); (case h1 => walk_at "hp"); (case e1 => rfl))
  | ((with_reducible refine rd_lenT (xs := ?x1) ?h1 ?_); (case h1 => walk_at "hp"))
  | ((with_reducible refine rd_lenL (xs := ?x1) ?h1 ?_); (case h1 => walk_at "hp"))
  | ((with_reducible refine rd_tupOf (xs := ?x1) ?h1 ?_); (case h1 => walk_at "hp"))
  | ((with_reducible refine rd_all (bs := ?x1) ?h1 ?_); (case h1 => walk_at "hp"))
  | ((with_reducible refine rd_atT (xs := ?x1) ?h1 ?_); (case h1 => walk_at "hp"))
  | ((with_reducible refine rd_atL (xs := ?x1) ?h1 ?_); (case h1 => walk_at "hp"))
  | ((with_reducible refine rd_gtup (xs := ?x1) ?h1 ?e1 ?_); (case h1 => walk_at "hp"); (case e1 => rfl))
  | ((with_reducible refine rd_atEn (xs := ?x1) ?h1 ?_); (case h1 => walk_at "hp"))
  | ((with_reducible refine rd_slT (xs := ?x1) ?h1 ?_); (case h1 => walk_at "hp"))
  | ((with_reducible refine rd_slL (xs := ?x1) ?h1 ?_); (case h1 => walk_at "hp"))
  | ((with_reducible refine rd_inN (N := ?x1) ?h1 ?_); (case h1 => walk_at "hp"))
  | ((with_reducible refine rd_inL (N := ?x1) ?h1 ?_); (case h1 => walk_at "hp"))
  | ((with_reducible refine rd_notInN (N := ?x1) ?h1 ?_); (case h1 => walk_at "hp"))
  | ((with_reducible refine rd_notInL (N := ?x1) ?h1 ?_); (case h1 => walk_at "hp"))
  | with_reducible refine rd_tm ?_
  | ((with_reducible refine rd_isF (xs := ?x1) ?h1 ?_); (case h1 => walk_at "fz"))
  | ((with_reducible refine rd_lenTq (xs := ?x1) ?h1 ?_); (case h1 => walk_at "sq"))
  | ((with_reducible refine rd_atTq (xs := ?x1) ?h1 ?_); (case h1 => walk_at "sq"))
  | ((with_reducible refine rd_atEnq (xs := ?x1) ?h1 ?_); (case h1 => walk_at "sq"))
  | ((with_reducible refine rd_slTq (xs := ?x1) ?h1 ?_); (case h1 => walk_at "sq"))
  | ((with_reducible refine rd_inNq (N := ?x1) ?h1 ?_); (case h1 => walk_at "sq"))
  | ((with_reducible refine rd_setL (xs := ?x1) (j := ?j1) ?h1 ?e1 ?_); (case h1 => walk_at "hp"); (case e1 => rfl))
  | with_reducible refine rd_int1 ?_
  | with_reducible refine rd_x1 ?_
  | with_reducible refine rd_x2 ?_
  | ((with_reducible refine rd_tyL (xs := ?x1) ?h1 ?_); (case h1 => walk_at "hp"))
  | ((with_reducible refine rd_ixsL (xs := ?x1) (v := ?v1) ?h1 ?e1 ?_); (case h1 => walk_at "hp"); (case e1 => rfl))
  | ((with_reducible refine rd_ixsT (xs := ?x1) (v := ?v1) ?h1 ?e1 ?_); (case h1 => walk_at "hp"); (case e1 => rfl))
  | ((with_reducible refine rd_I ?c1 ?_); (case c1 => walk_at "ic"))
  | ((with_reducible refine if_t ?hb1 ?_); (case hb1 => rfl))
  | ((with_reducible refine if_f ?hb1 ?_); (case hb1 => rfl)))
local macro_rules | `(tactic| walk_at "go") => `(tactic| repeat (first | walk_at "st" | dsimp only))
section
variable {P : Program} {w : World} {K : Frag} {mg : Str → Option Value} {base : Heap}
abbrev N_is_name : List Str := ["value", "sign"]
theorem sc_is_name : FnScope N_is_name ["value"] (defScope s_is_name) := ⟨rfl, rfl, rfl, by decide +kernel, rfl, by decide +kernel, by decide +kernel⟩
def sp_is_name : Sp := fun vs H Q _ => ∃ z, vs = [.str z] ∧ z ∈ menu ∧ ∀ H', Same H H' → Q (.bl true) H'
theorem c_is_name (S : Sys K mg) : C8.Cal P w K mg base 1 "is_name" sp_is_name [] := by
  refine calD S.f_D_is_name S.g_is_name sc_is_name (fun _ _ _ _ _ _ us hl => match us, hl with | [_], _ => rfl) ?_ ?_
  · rintro vs H Q E ⟨z, rfl, _⟩
    rfl
  · rintro cdv A outer s H vs Q E hr ⟨z, rfl, hz, q⟩
    refine ⟨_, pss_cons (ps_if (PW.pt (pw_or (pt_not (pt_val (pe_callB (call_isiC (K := K) rfl) (by rfl) S.n_isinstance (by decide +kernel) (pa_cons (pv 0) (pa_cons (pe_bltn (v := .ty "str") (by rfl) S.n_str (by decide +kernel) rfl) pa_nil))))) (pw_or1 (pt_not (pt_chain op_le op_le pe_int (pe_callB call_len_str (by rfl) S.n_len (by decide +kernel) (pa_cons (pv 0) pa_nil)) (C8.pe_gc rfl (S.i_MOST_NAME))))))) (pss_one (ps_ret pe_bl)) pss_nil)
      (pss_one (ps_ret (pe_callB (cr_allC (K := K) rfl rfl) (by rfl) S.n_all (by decide +kernel) (pa_cons (pe_lc (own := [("sign", 1)]) (g := gName 1) (tt := tYes) rfl sc_is_name.nd (pi_str (pv 0)) (blkOk_by (N := N_is_name) (sc := defScope s_is_name) (by decide +kernel)) (fun _ _ _ _ _ => (pg_name (i := 1) sc_is_name.nd rfl (Or.inl rfl))) (fun _ _ _ _ _ => pts_nil) (fun _ _ _ _ _ => (pe_cmpR op_in_sign (pv 1) (C8.pe_gc rfl (S.t_LETTERS)) rfl))) pa_nil)))), ?_⟩
    have l8 := menu_len z hz
    have l1 := menu_pos z hz
    have hd : Da (fun _ => True) H (.str z) (.str z) := .str z
    walk_at "go"
    refine ⟨z, rfl, sz (by omega), ?_⟩
    walk_at "go"
    refine if_t (decide_eq_true (by omega)) ?_
    walk_at "go"
    refine if_f (by rw [decide_eq_true (by omega)] <;> rfl) ?_
    walk_at "go"
    refine lcM walk_str ((List.replicate z.cps.size true).map V.bl) (by simp) (by show z.length ≤ _; omega) (fun _ _ => trivial) (fun j x H1 H1' y hj s hY hy Qy Qn hQ => ?_) fun L H1 hL s e => ?_
    · obtain ⟨rfl, c, hc, rfl⟩ := hY
      walk_at "go"
      refine ⟨c, ltr, rfl, rfl, ?_⟩
      have hm : decide (c ∈ ltr.cps.toList) = true := by
        have := menu_ltr z hz
        rw [List.all_eq_true] at this
        exact this c (Array.mem_toList_iff.mpr (Array.mem_of_getElem? hc))
      rw [hm]
      rw [List.getElem?_map, List.getElem?_replicate, if_pos hj] at hy
      cases hy
      exact hQ _ (Same.refl _)
    · walk_at "go"
      have e2 : (List.replicate z.cps.size true).all id = true := by simp
      rw [e2]
      exact q _ s
abbrev N_integer_in : List Str := ["word", "signs", "sign"]
theorem sc_integer_in : FnScope N_integer_in ["word"] (defScope s_integer_in) := ⟨rfl, rfl, rfl, by decide +kernel, rfl, by decide +kernel, by decide +kernel⟩
def sp_integer_in : Sp := fun vs H Q _ => ∃ c : Int, vs = [.str (numS c)] ∧ -1000 ≤ c ∧ c ≤ 1000 ∧ ∀ H', Same H H' → Q (.int c) H'
theorem c_integer_in (S : Sys K mg) : C8.Cal P w K mg base 1 "integer_in" sp_integer_in [] := by
  refine calD S.f_D_integer_in S.g_integer_in sc_integer_in (fun _ _ _ _ _ _ us hl => match us, hl with | [_], _ => rfl) ?_ ?_
  · rintro vs H Q E ⟨z, rfl, _⟩
    rfl
  · rintro cdv A outer s H vs Q E hr ⟨c, rfl, h1, h2, q⟩
    obtain ⟨sg, es, ne, l4, hs, hi, l5⟩ := num_parts h1 h2
    refine ⟨_, pss_cons (ps_set (i := 1) sc_integer_in.nd rfl (Or.inl rfl) (pe_ifExp (pt_cmpR op_eq (pe_slice C8.sl_txt (pv 0) po_none (po_some pe_int)) pe_str (nomark _)) (pe_slice C8.sl_txt (pv 0) (po_some pe_int) po_none) (pv 0)))
      (pss_cons (ps_if (PW.pt (pw_or (pt_cmpR op_eq (pv 1) pe_str (nomark _)) (pw_or (pt_cmpR op_gt (pe_callB call_len_str (by rfl) S.n_len (by decide +kernel) (pa_cons (pv 1) pa_nil)) pe_int (nomark _)) (pw_or1 (pt_not (pt_val (pe_callB (cr_allC (K := K) rfl rfl) (by rfl) S.n_all (by decide +kernel) (pa_cons (pe_lc (own := [("sign", 2)]) (g := gName 2) (tt := tYes) rfl sc_integer_in.nd (pi_str (pv 1)) (blkOk_by (N := N_integer_in) (sc := defScope s_integer_in) (by decide +kernel)) (fun _ _ _ _ _ => (pg_name (i := 2) sc_integer_in.nd rfl (Or.inl rfl))) (fun _ _ _ _ _ => pts_nil) (fun _ _ _ _ _ => (pe_cmpR op_in_sign (pv 2) (C8.pe_gc rfl (S.t_SIGNS)) rfl))) pa_nil)))))))) (pss_one (ps_ret pe_non)) pss_nil)
      (pss_one (ps_ret (pe_ifExp (pt_cmpR op_eq (pe_callTy call_str_int (by rfl) S.n_str (by decide +kernel) (pa_cons (pe_callTy call_int_str (by rfl) S.n_int (by decide +kernel) (pa_cons (pv 0) pa_nil)) pa_nil)) (pv 0) (nomark _)) (pe_callTy call_int_str (by rfl) S.n_int (by decide +kernel) (pa_cons (pv 0) pa_nil)) pe_non)))), ?_⟩
    refine rd_seq (rd_asg (rd_ifV (v := .str sg) (fun Q' q' => ?_) ?_))
    · walk_at "go"
      refine ⟨_, rfl, sz (by omega), ?_⟩
      walk_at "go"
      rw [← es] at q'
      refine ifb (fun g => ?_) fun g => ?_
      · walk_at "go"
        refine ⟨_, rfl, sz (by omega), ?_⟩
        rw [if_pos (of_decide_eq_true g)] at q'
        exact q'
      · walk_at "go"
        rw [if_neg (of_decide_eq_false g)] at q'
        exact q'
    · walk_at "go"
      refine if_f (decide_eq_false ne) ?_
      walk_at "go"
      refine ⟨sg, rfl, sz (by omega), ?_⟩
      walk_at "go"
      refine if_f (decide_eq_false (by omega)) ?_
      walk_at "go"
      refine lcM walk_str ((List.replicate sg.cps.size true).map V.bl) (by simp) (by show sg.length ≤ _; omega) (fun _ _ => trivial) (fun j x H1 H1' y hj s hY hy Qy Qn hQ => ?_) fun L H1 hL s e => ?_
      · obtain ⟨rfl, d, hd, rfl⟩ := hY
        walk_at "go"
        refine ⟨d, sgn, rfl, rfl, ?_⟩
        have hm : decide (d ∈ sgn.cps.toList) = true := decide_eq_true (hs d (Array.mem_toList_iff.mpr (Array.mem_of_getElem? hd)))
        rw [hm]
        rw [List.getElem?_map, List.getElem?_replicate, if_pos hj] at hy
        cases hy
        exact hQ _ (Same.refl _)
      · walk_at "go"
        have e2 : (List.replicate sg.cps.size true).all id = true := by simp
        rw [e2]
        refine if_f rfl ?_
        walk_at "go"
        refine ⟨_, c, rfl, hi, by omega, ?_⟩
        walk_at "go"
        have hlog : c.natAbs.log2 < 1920 := Nat.lt_of_le_of_lt (Nat.log2_le_self _) (by omega)
        refine ⟨c, rfl, hlog, ?_⟩
        walk_at "go"
        refine if_t (decide_eq_true rfl) ?_
        walk_at "go"
        exact ⟨_, c, rfl, hi, by omega, q _ s⟩
abbrev N_put : List Str := ["table", "one", "other", "bound"]
theorem sc_put : FnScope N_put ["table", "one", "other", "bound"] (defScope s_put) := ⟨rfl, rfl, rfl, by decide +kernel, rfl, by decide +kernel, by decide +kernel⟩
def cellV (x : V) : Prop := x = .non ∨ ∃ i, x = .int i
def RowAt (H0 H : Hp) (n : Nat) (r : Addr) : Prop := H0 r = none ∧ ∃ xs, H r = some (.lst xs) ∧ xs.length = n ∧ ∀ x ∈ xs, cellV x
def Mat (H0 H : Hp) (n : Nat) (t : Addr) : Prop := ∃ rows : List Addr, H t = some (.lst (rows.map V.ref)) ∧ H0 t = none ∧ rows.length = n ∧ ∀ r ∈ rows, r ≠ t ∧ RowAt H0 H n r
def sp_put : Sp := fun vs H Q _ => ∃ H0 n t, ∃ i j : Nat, ∃ b, vs = [.ref t, .int i, .int j, .int b] ∧ i < n ∧ j < n ∧ Same H0 H ∧ Mat H0 H n t ∧ ∀ H', Same H0 H' → TK H H' → Mat H0 H' n t → Q .non H'
theorem ixN_natO {n j : Nat} (hj : j < n) : ixN n (j : Int) = some j := by
  unfold ixN
  rw [if_pos (by omega), if_pos (by omega)]
  simp
theorem get_map {rows : List Addr} {i : Nat} (h : i < rows.length) : ∃ r, rows[i]? = some r ∧ r ∈ rows ∧ (rows.map V.ref)[i]? = some (.ref r) := by
  refine ⟨rows[i], List.getElem?_eq_getElem h, List.getElem_mem h, ?_⟩
  rw [List.getElem?_map, List.getElem?_eq_getElem h] <;> rfl
theorem Mat.set {H0 H : Hp} {n : Nat} {t r : Addr} {xs : List V} {v : V} {j : Nat} (m : Mat H0 H n t) (hr : H0 r = none) (hrt : r ≠ t) (e : H r = some (.lst xs)) (l : xs.length = n) (hx : ∀ x ∈ xs, cellV x) (hv : cellV v) : Mat H0 (upd H r (.lst (xs.set j v))) n t := by
  obtain ⟨rows, h1, h2, h3, h4⟩ := m
  refine ⟨rows, by rw [upd_ne hrt.symm]; exact h1, h2, h3, fun r' hr' => ⟨(h4 r' hr').1, (h4 r' hr').2.1, ?_⟩⟩
  by_cases g : r' = r
  · subst g
    refine ⟨_, upd_same, by rw [List.length_set, l], fun x hx' => ?_⟩
    rcases List.mem_or_eq_of_mem_set hx' with h | h
    · exact hx x h
    · rw [h]
      exact hv
  · rw [upd_ne g]
    exact (h4 r' hr').2.2
theorem c_put (S : Sys K mg) : C8.Cal P w K mg base 1 "put" sp_put [] := by
  refine calD S.f_D_put S.g_put sc_put (fun _ _ _ _ _ _ us hl => match us, hl with | [_, _, _, _], _ => rfl) ?_ ?_
  · rintro vs H Q E ⟨_, _, _, _, _, _, rfl, _⟩
    rfl
  · rintro cdv A outer s H vs Q E hr ⟨H0, n, t, i, j, b, rfl, hi, hj, s0, m, q⟩
    refine ⟨_, pss_one (ps_if (PW.pt (pw_or (pt_cmpR op_isN (pe_ix (ix_listC (K := K) rfl) (pe_ix (ix_listC (K := K) rfl) (pv 0) (pv 1) (fun _ _ => rfl)) (pv 2) (fun _ _ => rfl)) pe_non (nomark _)) (pw_or1 (pt_cmpR op_lt (pv 3) (pe_ix (ix_listC (K := K) rfl) (pe_ix (ix_listC (K := K) rfl) (pv 0) (pv 1) (fun _ _ => rfl)) (pv 2) (fun _ _ => rfl)) (nomark _))))) (pss_one (ps_asg (pv 3) (pg_sub (pe_ix (ix_listC (K := K) rfl) (pv 0) (pv 1) (fun _ _ => rfl)) (pv 2) set_list))) pss_nil), ?_⟩
    have m' := m
    obtain ⟨rows, h1, h2, h3, h4⟩ := m'
    obtain ⟨r, e1, e2, e3⟩ := get_map (h3 ▸ hi : i < rows.length)
    obtain ⟨nt, f, xs, e4, e5, e6⟩ := h4 r e2
    have hj2 : j < xs.length := e5 ▸ hj
    have gj : xs[j]? = some xs[j] := List.getElem?_eq_getElem hj2
    have pf : ∃ p xs k j', (V.ref r) = .ref p ∧ (V.int j) = .int k ∧ H p = some (.lst xs) ∧ ixN xs.length k = some j' ∧ Q .non (upd H p (.lst (xs.set j' (.int b)))) :=
      ⟨r, xs, j, j, rfl, rfl, e4, ixN_natO hj2, q _ (same_mut s0 f) (tk_lst e4) (m.set f nt e4 e5 e6 (.inr ⟨b, rfl⟩))⟩
    walk_at "go"
    refine rd_ixL h1 (atI_nat e3) ?_
    walk_at "go"
    refine rd_ixL e4 (atI_nat gj) ?_
    walk_at "go"
    refine ifb (fun h => ?_) fun h => ?_
    · walk_at "go"
      refine rd_ixL h1 (atI_nat e3) ?_
      walk_at "go"
      exact pf
    · walk_at "go"
      refine rd_ixL h1 (atI_nat e3) ?_
      walk_at "go"
      refine rd_ixL e4 (atI_nat gj) ?_
      rcases e6 _ (List.getElem_mem hj2) with z | ⟨x, z⟩
      · rw [z] at h
        cases h
      · rw [z]
        walk_at "go"
        refine ifb (fun h => ?_) fun h => ?_
        · walk_at "go"
          refine rd_ixL h1 (atI_nat e3) ?_
          walk_at "go"
          exact pf
        · walk_at "go"
          exact q _ s0 (TK.refl _) m
end
end K59
/-! K59Enum -/
set_option Elab.async false
set_option linter.all false
set_option maxRecDepth 100000
set_option maxHeartbeats 4000000
namespace K59
open PySem PySem.W PySem.Calls PySem.Spec PyProof.Rows L2
/-! ### enumerate over a tuple -/
section
set_option maxHeartbeats 8000000
theorem meets_enumB {v : Value} {o : Obj} {Hb : Heap → Prop} (B : Begins v o Hb) :
    Meets (Builtin.«enumerate.__new__» ⟨[.type "enumerate", v], []⟩) (fun _ R s => Hb s.heap ∧
      R (.ok (.ret (.ref (s.heap.push o).objs.size))) { s with heap := (s.heap.push o).push { cls := .type "enumerate", data := .fields #[.none, .bool false, .ref s.heap.objs.size, rawInt 0, .none, .none] } }) :=
  .of_wp fun prog w A R s h => by
    obtain ⟨hp, g, d, tk, os⟩ := s
    obtain ⟨h1, h⟩ := h
    have hsub := sub_enumerate
    have q1 : ∀ {A' : Around} {E : Value → Shared → Prop} {Q : Value → Shared → Prop}, Q (.ref hp.objs.size) ⟨hp.push o, g, d, tk, os⟩ → wpAny (model prog w) A' (pyIter v) Q E ⟨hp, g, d, tk, os⟩ :=
      fun q => B.iter prog w _ _ ⟨hp, g, d, tk, os⟩ _ h1 q
    wp_walk using q1
    refine wpAny_stack_any fun st => wpAny_pure ?_
    split
    · rename_i c _ _ _ _ _
      cases (c == Value.type "enumerate")
      · wp_walk using q1
        exact ⟨_, rfl, h⟩
      · wp_walk using q1
        exact ⟨_, rfl, h⟩
    · wp_walk using q1
      exact ⟨_, rfl, h⟩
end
section
variable {prog : Program} {w : World} {A : Around} {E : Value → Shared → Prop} {s : Shared}
theorem call_enumB {v : Value} {o : Obj} {Hb : Heap → Prop} {Q : Value → Shared → Prop} (B : Begins v o Hb) (h1 : Hb s.heap)
    (h : ∀ h', IsEnum h' (s.heap.objs.size + 1) s.heap.objs.size 0 .none → h'.get? s.heap.objs.size = some o → h'.objs.size = s.heap.objs.size + 2 →
      (∀ b o, s.heap.get? b = some o → h'.get? b = some o) → Q (.ref (s.heap.objs.size + 1)) { s with heap := h' }) :
    wpAny (model prog w) A (call (.type "enumerate") [v]) Q E s := by
  refine callType_new F.called_enumerate (by decide) (F.typeCall_enumerate_1 _) (F.newCall_enumerate_1 _) (fun obj => F.args_object_init_2 obj _) F.entry_enumerate_new
    (meets_enumB B) ⟨h1, ?_⟩
  have hz : (s.heap.push o).objs.size = s.heap.objs.size + 1 := Heap.size_push ..
  show _ ∧ _
  rw [hz]
  have he : IsEnum ((s.heap.push o).push { cls := .type "enumerate", data := .fields #[.none, .bool false, .ref s.heap.objs.size, rawInt 0, .none, .none] }) (s.heap.objs.size + 1) s.heap.objs.size 0 .none := by
    have := Heap.get?_push_size (s.heap.push o) (o := { cls := .type "enumerate", data := .fields #[.none, .bool false, .ref s.heap.objs.size, rawInt 0, .none, .none] }) rfl
    rw [hz] at this
    exact this
  refine ⟨⟨_, he, rfl⟩, h _ he (Heap.get?_push_of_some _ (Heap.get?_push_size _ B.free)) (by rw [Heap.size_push, hz]) fun b o x => Heap.get?_push_of_some _ (Heap.get?_push_of_some _ x)⟩
end
theorem wpAny_pyNext_enum_endT {prog : Program} {w : World} {A : Around} {E : Value → Shared → Prop} {s : Shared} {e it l : Addr} {i : Nat} {items : Array Value} {old : Value} {Q : Option Value → Shared → Prop} (hh : A.handled = none)
    (he : IsEnum s.heap e it i old) (hit : s.heap.IsTupleIter it l i) (hl : s.heap.IsTuple l items) (hx : items[i]? = none)
    (hQ : ∀ h', Heap.ExtBut it s.heap h' → Q none { s with heap := h' }) : wpAny (model prog w) A (pyNext (.ref e)) Q E s := by
  have hTy : s.TypeIs (.ref e) "enumerate" := ⟨_, he, rfl⟩
  unfold pyNext
  refine wpAny_bind (wpAny_attempt (wpAny_callSpecial?_slot (name := Str.ofString "__next__") hTy F.slot_enumerate_next
    (wpAny_call_entry F.slot_enumerate_next hTy F.entry_enumerate_next ?_ (F.args_enumerate_next_1 _))))
  show wpAny _ _ (field (.ref e) 2 >>= _) _ _ _
  refine wpAny_bind (wpAny_field he rfl (x := .ref it) rfl ?_)
  refine wpAny_bind (wpAny_nextOf_tuple_end hh hit hl hx fun h' x he' hx' => ?_)
  obtain ⟨o, ho, hc⟩ := hx'
  refine wpAny_bind (wpAny_isInstance (T := "StopIteration") (b := true) ⟨o, ho, hc⟩ isSubtype_stop ?_)
  exact wpAny_pure (hQ _ he')
def IteT (K : Frag) (a : Addr) : It :=
  ⟨fun i H => ∃ (xs : List V) (x : V), SqT K H a xs ∧ xs[i]? = some x, fun i H v H' => ∃ T x, v = .ref T ∧ H T = none ∧ H' = upd H T (.tup [.int (i : Nat), x]) ∧ ∀ xs, SqT K H a xs → xs[i]? = some x, fun i H => ∃ xs : List V, SqT K H a xs ∧ xs.length ≤ i⟩
theorem turn_enumT {P : Program} {w : World} {K : Frag} {elts : List Expr} {kk : Nat} {tpos : Pos} (a e it : Addr) (hai : a ≠ it) (hae : a ≠ e) :
    Turn P w K (.Tuple elts kk tpos) (IteT K a) [e, it] e (fun i h => (∃ old, IsEnum h e it ((i : Nat) : Int) old) ∧ h.IsTupleIter it a i ∧ e ≠ it) where
  mem := by simp
  obj := fun i h st b hb => by
    obtain ⟨⟨old, he⟩, ⟨o, ho, hc, hd⟩, _⟩ := st
    have e' : b = e ∨ b = it := by simpa using hb
    rcases e' with z | z
    · rw [z]; exact ⟨_, he, fun v q => nomatch q⟩
    · rw [z]; exact ⟨o, ho, fun v q => by rw [hd] at q; cases q⟩
  keep := fun i h h' st k => let ⟨⟨old, he⟩, hi, hne⟩ := st; ⟨⟨old, k e (by simp) _ he⟩, hi.at fun o q => k it (by simp) o q, hne⟩
  item := by
    intro X hP hw hK hc i pins s σ H E I hf st hg
    subst hP hw hK
    obtain ⟨⟨old, he⟩, hit, hne⟩ := st
    obtain ⟨xs, x, hq, hx⟩ := hg
    obtain ⟨its, rv, p, hz⟩ := I.tuple hq
    obtain ⟨u, hu, ru⟩ := rv.get hx
    have hel : e < s.heap.objs.size := Heap.lt_size he
    have hil : it < s.heap.objs.size := by obtain ⟨_, q, _⟩ := hit; exact Heap.lt_size q
    have hT0 : s.heap.IsTuple a its.toArray := p
    have hlt : i < its.toArray.size := by
      have := (List.getElem?_eq_some_iff.mp hu).1
      simpa using this
    refine wpAny_pyNext_enum_itemC (Draws.tuple (show X.A.in1.handled = none from I.ok.hd hc) it a hai its.toArray) he ⟨hit, hT0⟩ hlt hne (by simp [hne, hae.symm]) fun u' h' tk hu' ho hit' hT hsz hk => ?_
    have eu : u' = u := by
      have h1 : its.toArray[i]? = some u := by simpa using hu
      exact Option.some.inj (hu'.symm.trans h1)
    subst eu
    refine ⟨_, rfl, wpAny_letOwnedTupleGo_enum (s := { s with heap := h', toks := tk + 1 }) ho fun h'' he' sb => ?_⟩
    have hT2 : h''.get? s.heap.objs.size = some { cls := .type "tuple", data := .seq #[.int i tk, u'] } := (sb.2 _ (Nat.ne_of_gt hel)).trans hT
    have new : ObjOk X.prog X.w (upd H s.heap.objs.size (.tup [.int (i : Nat), x])) h'' s.heap.objs.size (.tup [.int (i : Nat), x]) :=
      ⟨by show 2 ≤ sizeLine; decide, [.int i tk, u'], .cons ⟨_, rfl⟩ (.cons ru .nil), ⟨_, hT2, rfl, _, rfl⟩⟩
    have I1 : Inv X pins σ (upd H s.heap.objs.size (.tup [.int (i : Nat), x])) { s with heap := h'', toks := tk + 1 } :=
      I.turnedNew (ch := [e, it]) (fun b ob hb q => (sb.2 b (fun z => hb (by simp [z]))).trans (hk b ob (fun z => hb (by simp [z])) (fun z => hb (by simp [z])) q)) hf (Nat.le_refl _) new
    refine ⟨.ref s.heap.objs.size, _, I1, rfl, ⟨_, x, rfl, I.hok.fresh (Nat.le_refl _), rfl, fun ys hy => by rw [I.tuple_inj hy hq]; exact hx⟩, ⟨⟨u', ?_⟩, hit'.1.at fun o q => (sb.2 it (Ne.symm hne)).trans q, hne⟩, fun b hb => ?_⟩
    · have e1 : ((i + 1 : Nat) : Int) = (i : Int) + 1 := by omega
      rw [e1]; exact he'
    · have hb' : b < s.heap.objs.size := by
        have e' : b = e ∨ b = it := by simpa using hb
        rcases e' with z | z
        · rw [z]; exact hel
        · rw [z]; exact hil
      rw [upd_ne (Nat.ne_of_lt hb')]
      exact (hf b hb).1
  done := by
    intro X hP hw hK hc i pins s σ H E I hf st hg
    subst hP hw hK
    obtain ⟨⟨old, he⟩, hit, hne⟩ := st
    obtain ⟨xs, hq, hx⟩ := hg
    obtain ⟨its, rv, p, hz⟩ := I.tuple hq
    obtain ⟨f0, f1, f2, f3, f4, f5⟩ := hf it (by simp)
    have hT0 : s.heap.IsTuple a its.toArray := p
    have hl := rv.length
    have hn : its.toArray.size ≤ i := by simp; omega
    refine wpAny_pyNext_enum_endT (I.ok.hd hc) he hit hT0 (by simp; omega) fun h' eb => ⟨rfl, I.turned (t' := s.toks) (fun b o hb q => eb b o hb q) f0 f1 f3 f4 f5⟩
  self := fun A i s Q E st h => let ⟨⟨_, he⟩, _⟩ := st; wpAny_pyIter_enum he h
def iEnumT (K : Frag) (ta : TA) : TI := fun σ H R => ta σ H fun vs H1 => ∃ a xs, vs = [.ref a] ∧ SqT K H1 a xs ∧ R (IteT K a) H1
theorem pi_enumT {X : Cx} {e : Expr} {ta : TA} {p pos tpos : Pos} {elts : List Expr} {kk : Nat} (hg : Gl X "enumerate") (hm : X.mg "enumerate" = none) (ha : PA X [e] ta) (hs : starEach [e] X.env = [(false, eval e X.env)] := by rfl) :
    PI X (.Tuple elts kk tpos) (.Call (.Name "enumerate" p) [e] [] pos) (iEnumT X.K ta) := by
  refine ⟨fun pins s σ H R I h => ?_⟩
  refine Call_ (ld_blt I hg hm boot_enumerate (PyProof.Rows.callWith_type1 (thn (ha.run pos pins s σ H _ I h) fun us s1 ⟨vs, H1, I1, r1, q1⟩ => ?_) hs rfl))
  obtain ⟨a, xs, ex, hq, q⟩ := q1
  subst ex
  cases r1 with
  | cons r rr =>
    cases rr
    cases r
    obtain ⟨its, rv, p', hz⟩ := I1.tuple hq
    have hT0 : s1.heap.IsTuple a its.toArray := p'
    have hlt : a < s1.heap.objs.size := by
      obtain ⟨o, ho, _⟩ := hT0
      exact Heap.lt_size ho
    refine call_enumB (begins_tuple a its.toArray) hT0 fun h' he hit hsz hk => wpAny_pyIter_enum he ?_
    have I2 : Inv X pins σ H1 { s1 with heap := h' } := I1.kept (t' := s1.toks) hk
    refine ⟨s1.heap.objs.size + 1, [s1.heap.objs.size + 1, s1.heap.objs.size], _, _, H1, rfl, I2, turn_enumT a (s1.heap.objs.size + 1) s1.heap.objs.size (Nat.ne_of_lt hlt) (Nat.ne_of_lt (Nat.lt_succ_of_lt hlt)), ⟨⟨.none, he⟩, ⟨_, hit, rfl, rfl⟩, Nat.succ_ne_self _⟩, fun b hb => ?_, q⟩
    have e' : b = s1.heap.objs.size + 1 ∨ b = s1.heap.objs.size := by simpa using hb
    have hle : s1.heap.objs.size ≤ b := by
      rcases e' with z | z
      · rw [z]; exact Nat.le_add_right _ _
      · rw [z]; exact Nat.le_refl _
    exact I1.fpOk hle (I1.hok.fresh hle)
theorem walk_enumT {K : Frag} {a : Addr} {xs : List V} : Walk (IteT K a) xs.length (fun H => SqT K H a xs) (YPair (fun i => some (.int (i : Nat))) (fun i => xs[i]?)) := by
  refine ⟨fun i _ hi q => ⟨xs, xs[i], q, by simp [hi]⟩, fun _ q => ⟨xs, q, Nat.le_refl _⟩, fun i H v H' _ q y => ?_⟩
  obtain ⟨T, x, h1, h2, h3, h4⟩ := y
  exact ⟨T, .int (i : Nat), x, h1, h2, h3, rfl, h4 xs q⟩
end K59
/-! K59Frz -/
set_option Elab.async false
set_option linter.all false
set_option maxRecDepth 100000
set_option maxHeartbeats 4000000
namespace K59
open PySem PySem.W PySem.Calls PySem.Spec PyProof.Rows L2
/-! ### a tuple whose object is known to have no dict of its own: its methods -/
def FrzT (H : Hp) (p : Addr) (xs : List V) : Prop := ∃ o : Obj, o.cls = .type "tuple" ∧ o.dict = none ∧ H p = some (.frz o (.tup xs))
section
variable {X : Cx} {K : Frag} {H H' : Hp} {p : Addr} {xs : List V}
theorem FrzT.sq (h : FrzT H p xs) : SqT K H p xs := let ⟨o, _, _, e⟩ := h; .inl (.inr ⟨o, e⟩)
theorem FrzT.same (h : FrzT H p xs) (s : Same H H') : FrzT H' p xs := let ⟨o, a, b, e⟩ := h; ⟨o, a, b, s _ _ e⟩
def rTupF (K : Frag) : List V → Hp → VK → Prop := fun xs H Q => ∃ p ys, xs = [.ref p] ∧ SqL K H p ys ∧ ∀ l H', Same H H' → FrzT H' l ys → Q (.ref l) H'
theorem call_tupF (h : X.K = K) : CallR X (.type "tuple") (rTupF K) := by
  subst h
  intro pins s σ H xs us Q I r h
  obtain ⟨p, ys, rfl, hq, q⟩ := h
  obtain ⟨u, rfl, rx⟩ := L2.vals1 r
  cases rx
  obtain ⟨its, r', pl, hz⟩ := I.list hq
  have hlen := r'.length
  refine call_tuple_list pl.isList (fun h' kp => ?_) (by simp only [List.size_toArray] <;> omega)
  have I1 : Inv X pins σ H { s with heap := h' } := I.kept (t' := s.toks) kp
  have hn : H h'.objs.size = none := I1.hok.fresh (Nat.le_refl _)
  have I2 : Inv X pins σ (upd H h'.objs.size (.frz { cls := .type "tuple", data := .seq its.toArray } (.tup ys))) { s with heap := h'.push { cls := .type "tuple", data := .seq its.toArray } } :=
    I1.laid (t' := s.toks) (fun b o e => Heap.get?_push_of_some _ e) (Nat.le_refl _) (show ObjOk X.prog X.w _ _ _ (.frz _ (.tup ys)) from ⟨Heap.get?_push_size _ rfl, hz, its, r', IsTup.new _ _⟩)
  exact ⟨.ref h'.objs.size, _, I2, rfl, q _ _ (same_new hn) ⟨_, rfl, rfl, upd_same⟩⟩
def tTM (r : V → List V → Hp → VK → Prop) (to : TE) (t : TA) : TE := fun σ H Q => to σ H fun x H1 => (∃ p xs, x = .ref p ∧ FrzT H1 p xs) ∧ t σ H1 fun xs H2 => r x xs H2 Q
variable {o e : Expr} {es : List Expr} {to : TE} {t : TA} {name : Str} {apos cpos : Pos} {id : String} {r : V → List V → Hp → VK → Prop}
theorem pe_tm (pa : PlainAttrs "tuple") (slot : Slot "tuple" name id) (hty : typeOf (.builtin id) = pure (.type "method_descriptor")) (hm : MtR X id r) (ho : PE X o to) (ha : PA X (e :: es) t)
    (hbase : attributeBase o name X.env (eval o X.env) = eval o X.env := by rfl)
    (hfew : ((backTo cpos (starEach (e :: es) X.env)).all (fun x => !x.1) && (backToKw cpos (keywordEach [] X.env)).all (fun x => x.1.isSome)
      && decide ((e :: es).length + ([] : List Keyword).length + (if ([] : List Keyword).isEmpty then 0 else 1) < 30)) = true := by rfl)
    (hline : (apos.endLine == cpos.line) = true := by rfl) (hs : starEach (e :: es) X.env = (false, eval e X.env) :: starEach es X.env := by rfl) (hplain : (backTo cpos (starEach es X.env)).any (·.1) = false := by rfl) :
    PE X (.Call (.Attribute o name apos) (e :: es) [] cpos) (tTM r to t) := by
  refine ⟨fun pins s σ H Q I h => ?_⟩
  refine wpAny_Call_method_late hbase hfew hline rfl (thn (ho.run pins s σ H _ I h) fun v s1 ⟨x, H1, I1, r1, ⟨p, xs, ex, ob, oc, od, eo⟩, q1⟩ => ?_)
  subst ex
  have ev : v = .ref p := r1
  subst ev
  have hg : s1.heap.get? p = some ob := (I1.hok p _ eo).1
  refine ⟨"tuple", id, pa, slot, hty, ⟨ob, hg, oc⟩, fun a ea => ?_, ?_⟩
  · cases ea
    exact ⟨ob, hg, od⟩
  · have hA := ha.run cpos pins s1 σ H1 _ I1 q1
    rw [hs] at hA ⊢
    refine Calls.callWith_builtin (by show (false || (backTo cpos (starEach es X.env)).any (·.1)) = false; rw [hplain] <;> rfl) (Calls.evalArgs_plain ?_)
    exact thn hA fun us s2 ⟨vs, H2, I2, r2, q2⟩ => hm pins s2 σ H2 _ vs _ us Q I2 r1 r2 q2
end
theorem sqt_same {K : Frag} {H H' : Hp} {p : Addr} {xs : List V} (h : SqT K H p xs) (s : Same H H') : SqT K H' p xs := by
  rcases h with (h | ⟨o, h⟩) | h
  · exact .inl (.inl (s _ _ h))
  · exact .inl (.inr ⟨o, s _ _ h⟩)
  · exact .inr h
end K59
/-! K59Auto2 -/
set_option Elab.async false
set_option linter.all false
set_option maxRecDepth 100000
set_option maxHeartbeats 4000000
namespace K59
open PySem PySem.W PySem.Calls PySem.Spec PyProof.Rows L2
local macro_rules | `(tactic| walk_at "hp") => `(tactic| first
  | assumption
  | exact upd_same
  | (refine same_new (by assumption) _ _ ?_; walk_at "hp")
  | (refine (by assumption : Same _ _) _ _ ?_; walk_at "hp")
  | (refine FK.tk (by assumption) (by assumption) _ _ ?_; walk_at "hp"))
local macro_rules | `(tactic| walk_at "sq") => `(tactic| first
  | assumption
  | exact FrzT.sq (by assumption)
  | (refine sqt_new (by assumption) ?_; walk_at "sq")
  | (refine sqt_same ?_ (by assumption); walk_at "sq"))
local macro_rules | `(tactic| walk_at "fz") => `(tactic| first
  | assumption
  | (refine frz_new (by assumption) ?_; walk_at "fz")
  | (refine FrzT.same ?_ (by assumption); walk_at "fz"))
local macro_rules | `(tactic| walk_at "ic") => `(tactic| first
  | ((with_reducible show (0 : Int) < _); decide)
  | exact Or.inl ⟨by decide, by decide⟩
  | exact Or.inr ⟨by decide, by decide⟩
  | exact (show (0 : Int) < _ ∧ _ < (1073741824 : Int) from ⟨by decide, by decide⟩)
  | exact (show (0 : Int) ≤ _ ∧ _ ≤ (1000000 : Int) ∧ Int.natAbs _ < 2 ^ 64 from ⟨by decide, by decide, by decide⟩)
  | exact (⟨by decide, by decide, by decide⟩ : _ ∧ _ ∧ _))
local macro_rules | `(tactic| walk_at "st") => `(tactic| first
  | with_reducible refine rd_var rfl ?_
  | with_reducible refine rd_c ?_
  | with_reducible refine rd_cons ?_
  | with_reducible refine rd_nil ?_
  | with_reducible refine rd_op ?_
  | with_reducible refine rd_cb ?_
  | with_reducible refine rd_call ?_
  | with_reducible refine rd_test ?_
  | with_reducible refine rd_B ?_
  | with_reducible refine rd_bl ?_
  | with_reducible refine rd_un ?_
  | with_reducible refine rd_and ?_
  | with_reducible refine rd_or ?_
  | with_reducible refine rd_not ?_
  | with_reducible refine rd_andV ?_
  | with_reducible refine rd_orV ?_
  | with_reducible refine rd_notV ?_
  | with_reducible refine rd_if ?_
  | with_reducible refine rd_chain ?_
  | with_reducible refine rd_I0 ?_
  | with_reducible refine rd_U ?_
  | with_reducible refine rd_eqI ?_
  | with_reducible refine rd_neI ?_
  | with_reducible refine rd_eqS ?_
  | with_reducible refine rd_neS ?_
  | with_reducible refine rd_nn ?_
  | with_reducible refine rd_asg ?_
  | with_reducible refine rd_gname ?_
  | with_reducible refine rd_seq ?_
  | with_reducible refine rd_ifS ?_
  | with_reducible refine rd_ret ?_
  | with_reducible refine rd_next ?_
  | with_reducible refine rd_cont ?_
  | with_reducible refine rd_drop ?_
  | with_reducible refine rd_par ?_
  | with_reducible refine rd_vs2 ?_
  | with_reducible refine rd_gsub ?_
  | with_reducible refine rd_gcons ?_
  | with_reducible refine rd_gnil ?_
  | with_reducible refine rd_tup ?_
  | with_reducible refine rd_lst ?_
  | with_reducible refine rd_sl ?_
  | with_reducible refine rd_part ?_
  | with_reducible refine rd_nopart ?_
  | with_reducible refine rd_i1 ?_
  | with_reducible refine rd_bm ?_
  | with_reducible refine rd_yes ?_
  | with_reducible refine rd_lcT ?_
  | with_reducible refine rd_lcL ?_
  | with_reducible refine rd_lcR1 ?_
  | with_reducible refine rd_lcS ?_
  | with_reducible refine rd_forT ?_
  | with_reducible refine rd_forL ?_
  | with_reducible refine rd_forR1 ?_
  | with_reducible refine rd_atS ?_
  | with_reducible refine rd_forEn ?_
  | with_reducible refine rd_dget ?_
  | with_reducible refine rd_din ?_
  | with_reducible refine rd_dget2 ?_
  | with_reducible refine rd_dput ?_
  | with_reducible refine rd_disp ?_
  | with_reducible refine rd_pcons ?_
  | with_reducible refine rd_pnil ?_
  | with_reducible refine rd_dcL ?_
  | with_reducible refine rd_lcEn ?_
  | with_reducible refine rd_yS ?_
  | with_reducible refine rd_m1 ?_
  | with_reducible refine rd_meth ?_
  | with_reducible refine rd_fld ?_
  | with_reducible refine rd_sfld ?_
  | with_reducible refine rd_make ?_
  | with_reducible refine rd_fmt ?_
  | with_reducible refine rd_js ?_
  | with_reducible refine rd_js0 ?_
  | with_reducible refine iteT ?_
  | with_reducible refine iteF ?_
  | ((with_reducible refine isi_int (d := ?d1) (N := ?n1) ?h1 ?_); (case h1 => assumption))
  | ((with_reducible refine isi_bool (d := ?d1) (N := ?n1) ?h1 ?_); (case h1 => assumption))
  | ((with_reducible refine isi_str (d := ?d1) (N := ?n1) ?h1 ?_); (case h1 => assumption))
  | ((with_reducible refine isi_tuple (d := ?d1) (N := ?n1) ?h1 ?_); (case h1 => assumption))
  | with_reducible refine isi_str (N := fun _ => True) (Da.str _) ?_
  | with_reducible refine isi_int (N := fun _ => True) (Da.int _) ?_
  | with_reducible refine isi_bool (N := fun _ => True) (Da.int _) ?_
  | with_reducible refine isi_str (N := fun _ => True) (Da.int _) ?_
  | ((with_reducible show (wipe _ _ = wipe _ _) ∧ _); refine ⟨rfl, ?_⟩)
  | ((with_reducible show Ends.nx _ _ _); dsimp only)
  | ((with_reducible show Ends.rt _ _ _); dsimp only)
  | ((with_reducible show Ends.ct _ _ _); dsimp only)
  | ((with_reducible refine rd_ixT (xs := ?x1) (v := ?v1) ?h1 ?e1 ?_); (case h1 => walk_at "hp"); (case e1 => rfl))
  | ((with_reducible refine rd_ixL (xs := ?x1) (v := ?v1) ?h1 ?e1 ?_); (case h1 => walk_at "hp"); (case e1 => rfl))
  | ((with_reducible refine rd_lenT (xs := ?x1) ?h1 ?_); (case h1 => walk_at "hp"))
  | ((with_reducible refine rd_lenL (xs := ?x1) ?h1 ?_); (case h1 => walk_at "hp"))
  | ((with_reducible refine rd_tupOf (xs := ?x1) ?h1 ?_); (case h1 => walk_at "hp"))
  | ((with_reducible refine rd_all (bs := ?x1) ?h1 ?_); (case h1 => walk_at "hp"))
  | ((with_reducible refine rd_atT (xs := ?x1) ?h1 ?_); (case h1 => walk_at "hp"))
  | ((with_reducible refine rd_atL (xs := ?x1) ?h1 ?_); (case h1 => walk_at "hp"))
  | ((with_reducible refine rd_gtup (xs := ?x1) ?h1 ?e1 ?_); (case h1 => walk_at "hp"); (case e1 => rfl))
  | ((with_reducible refine rd_atEn (xs := ?x1) ?h1 ?_); (case h1 => walk_at "hp"))
  | ((with_reducible refine rd_slT (xs := ?x1) ?h1 ?_); (case h1 => walk_at "hp"))
  | ((with_reducible refine rd_slL (xs := ?x1) ?h1 ?_); (case h1 => walk_at "hp"))
  | ((with_reducible refine rd_inN (N := ?x1) ?h1 ?_); (case h1 => walk_at "hp"))
  | ((with_reducible refine rd_inL (N := ?x1) ?h1 ?_); (case h1 => walk_at "hp"))
  | ((with_reducible refine rd_notInN (N := ?x1) ?h1 ?_); (case h1 => walk_at "hp"))
  | ((with_reducible refine rd_notInL (N := ?x1) ?h1 ?_); (case h1 => walk_at "hp"))
  | with_reducible refine rd_tm ?_
  | ((with_reducible refine rd_isF (xs := ?x1) ?h1 ?_); (case h1 => walk_at "fz"))
  | ((with_reducible refine rd_lenTq (xs := ?x1) ?h1 ?_); (case h1 => walk_at "sq"))
  | ((with_reducible refine rd_atTq (xs := ?x1) ?h1 ?_); (case h1 => walk_at "sq"))
  | ((with_reducible refine rd_atEnq (xs := ?x1) ?h1 ?_); (case h1 => walk_at "sq"))
  | ((with_reducible refine rd_slTq (xs := ?x1) ?h1 ?_); (case h1 => walk_at "sq"))
  | ((with_reducible refine rd_inNq (N := ?x1) ?h1 ?_); (case h1 => walk_at "sq"))
  | ((with_reducible refine rd_setL (xs := ?x1) (j := ?j1) ?h1 ?e1 ?_); (case h1 => walk_at "hp"); (case e1 => rfl))
  | with_reducible refine rd_int1 ?_
  | with_reducible refine rd_x1 ?_
  | with_reducible refine rd_x2 ?_
  | ((with_reducible refine rd_tyL (xs := ?x1) ?h1 ?_); (case h1 => walk_at "hp"))
  | ((with_reducible refine rd_ixsL (xs := ?x1) (v := ?v1) ?h1 ?e1 ?_); (case h1 => walk_at "hp"); (case e1 => rfl))
  | ((with_reducible refine rd_ixsT (xs := ?x1) (v := ?v1) ?h1 ?e1 ?_); (case h1 => walk_at "hp"); (case e1 => rfl))
  | ((with_reducible refine rd_I ?c1 ?_); (case c1 => walk_at "ic"))
  | ((with_reducible refine if_t ?hb1 ?_); (case hb1 => rfl))
  | ((with_reducible refine if_f ?hb1 ?_); (case hb1 => rfl)))
local macro_rules | `(tactic| walk_at "go") => `(tactic| repeat (first | walk_at "st" | dsimp only))
section
variable {K : Frag} {σ : L2.St} {H : Hp} {Q : VK} {v x y : V} {ta te to : TE} {tt : TT} {tl : TA} {tb : TS} {g : TG} {D : Ends} {a b p o C : Addr} {xs ys : List V} {vs : List Nat}
theorem rd_forEn {tv : TA} (q : tv σ H fun vz H1 => ∃ a xs, vz = [.ref a] ∧ SqT K H1 a xs ∧ ForAt (IteT K a) g tb D σ H1) : tFor (iEnumT K tv) g tb D σ H := q
theorem rd_lcEn {tv : TA} (q : tv σ H fun vz H1 => ∃ a xs, vz = [.ref a] ∧ SqT K H1 a xs ∧ LcAt (IteT K a) g tt te vs σ H1 Q) : tLc (iEnumT K tv) g tt te vs σ H Q := q
theorem rd_atEn {R : Addr → Prop} (h : H p = some (.tup xs)) (q : R p) : ∃ a xs, [V.ref p] = [.ref a] ∧ SqT K H a xs ∧ R a := ⟨p, xs, rfl, .inl (.inl h), q⟩
theorem rd_catT (h1 : H a = some (.tup xs)) (h2 : H b = some (.tup ys)) (l : xs.length + ys.length ≤ sizeLine) (q : ∀ p H', Same H H' → H' p = some (.tup (xs ++ ys)) → Q (.ref p) H') : rCatA K (.ref a) (.ref b) H Q := by
  refine ⟨a, b, xs, ys, rfl, rfl, .inl (.inl h1), .inl (.inl h2), l, fun z => ?_, fun _ z => ?_, fun _ _ p hp => q p _ (same_new hp) upd_same⟩
  · subst z
    exact q b H (Same.refl H) h2
  · subst z
    exact q a H (Same.refl H) (by rw [List.append_nil]; exact h1)
theorem cut_whole {lo hi : Option Int} (h : HT.sIx xs.length 0 lo = 0 ∧ HT.sIx xs.length xs.length hi = xs.length) : cutV xs lo hi = xs := by
  unfold cutV
  rw [h.1, h.2, List.drop_zero, Nat.sub_zero, List.take_length]
theorem rd_slT {lo hi : Option Int} (h : H a = some (.tup xs)) (q : ∀ p H', Same H H' → H' p = some (.tup (cutV xs lo hi)) → Q (.ref p) H') : rSlA K (.ref a) lo hi H Q := by
  refine ⟨a, xs, rfl, .inl (.inl h), fun z => q a H (Same.refl H) (by rw [cut_whole z]; exact h), fun _ p hp => q p _ (same_new hp) upd_same⟩
theorem rd_slL {lo hi : Option Int} (h : H a = some (.lst xs)) (q : ∀ p, H p = none → Q (.ref p) (upd H p (.lst (cutV xs lo hi)))) : rSlL K (.ref a) lo hi H Q := ⟨a, xs, rfl, .inl (.inl h), q⟩
theorem rd_catL (h1 : H a = some (.lst xs)) (h2 : H b = some (.lst ys)) (l : xs.length + ys.length ≤ sizeLine) (q : ∀ p, H p = none → Q (.ref p) (upd H p (.lst (xs ++ ys)))) : rCat (.ref a) (.ref b) H Q := ⟨a, b, xs, ys, rfl, rfl, h1, h2, l, q⟩
theorem inV_names (z : Str) (N : List Str) : inV (.str z) (N.map V.str) = decide (z ∈ N) := by
  induction N with
  | nil => rfl
  | cons a N ih =>
    have e : inV (.str z) ((a :: N).map V.str) = (eqV (.str a) (.str z) || inV (.str z) (N.map V.str)) := rfl
    rw [e, ih]
    have e2 : eqV (.str a) (.str z) = decide (z = a) := by
      show (a == z) = _
      by_cases h : a = z
      · rw [h, decide_eq_true rfl, beq_self_eq_true]
      · rw [decide_eq_false fun q => h q.symm]
        exact beq_eq_false_iff_ne.mpr h
    rw [e2]
    by_cases h : z = a
    · rw [decide_eq_true h, decide_eq_true (List.mem_cons.mpr (.inl h)), Bool.true_or]
    · rw [decide_eq_false h, Bool.false_or]
      by_cases h2 : z ∈ N
      · rw [decide_eq_true h2, decide_eq_true (List.mem_cons.mpr (.inr h2))]
      · rw [decide_eq_false h2, decide_eq_false fun q => (List.mem_cons.mp q).elim h h2]
theorem flat_names (N : List Str) : (N.map V.str).all flatV = true := by
  induction N with
  | nil => rfl
  | cons a N ih =>
    show (flatV (.str a) && _) = true
    rw [ih] <;> rfl
theorem rd_inN {z : Str} {N : List Str} (h : H p = some (.tup (N.map V.str))) (q : Q (.bl (decide (z ∈ N))) H) : rIn K false (.str z) (.ref p) H Q :=
  ⟨p, _, rfl, .inr (.inl (.inl h)), rfl, flat_names N, by rw [if_neg Bool.false_ne_true, inV_names]; exact q⟩
theorem rd_inL {z : Str} {N : List Str} (h : H p = some (.lst (N.map V.str))) (q : Q (.bl (decide (z ∈ N))) H) : rIn K false (.str z) (.ref p) H Q :=
  ⟨p, _, rfl, .inl (.inl (.inl h)), rfl, flat_names N, by rw [if_neg Bool.false_ne_true, inV_names]; exact q⟩
theorem rd_notInL {z : Str} {N : List Str} (h : H p = some (.lst (N.map V.str))) (q : Q (.bl (!decide (z ∈ N))) H) : rIn K true (.str z) (.ref p) H Q :=
  ⟨p, _, rfl, .inl (.inl (.inl h)), rfl, flat_names N, by rw [if_pos rfl, inV_names]; exact q⟩
theorem rd_notInN {z : Str} {N : List Str} (h : H p = some (.tup (N.map V.str))) (q : Q (.bl (!decide (z ∈ N))) H) : rIn K true (.str z) (.ref p) H Q :=
  ⟨p, _, rfl, .inr (.inl (.inl h)), rfl, flat_names N, by rw [if_pos rfl, inV_names]; exact q⟩
theorem rd_yS {z : Str} {q : Prop} (h : q) : (∃ a, V.str z = .str a) ∧ q := ⟨⟨z, rfl⟩, h⟩
theorem rd_m1 {r : V → List V → Hp → VK → Prop} (q : to σ H fun x H1 => (∃ a, x = .str a) ∧ te σ H1 fun y H2 => r x [y] H2 Q) : tM1 r to te σ H Q := q
theorem rd_meth {C : Addr} {m : Str} {sp : Sp} {dvs : List V} {E : XK} (q : ta σ H fun x H1 => ∃ a dx fs, x = .ref a ∧ H1 a = some (.ins C dx fs) ∧ fs.lookup m = none ∧ tl σ H1 fun vs H2 => sp (x :: (vs ++ dvs)) H2 Q E) : tMeth C m sp dvs E ta tl σ H Q := q
theorem rd_fld {f : Str} (q : ta σ H fun x H1 => ∃ a C dx fs v, x = .ref a ∧ H1 a = some (.ins C dx fs) ∧ Cls K C ∧ NoAttr K C f ∧ fs.lookup f = some v ∧ Q v H1) : tFld K ta f σ H Q := q
theorem rd_sfld {f : Str} {tv : TE} (q : tv σ H fun y H1 => ta σ H1 fun x H2 => ∃ a C dx fs, x = .ref a ∧ H2 a = some (.ins C dx fs) ∧ Cls K C ∧ NoAttr K C f ∧ fs.length < 1000 ∧ D.nx σ (upd H2 a (.ins C dx (putF f y fs)))) : sFld K ta tv f D σ H := q
theorem rd_make {C : Addr} {sp : Sp} {dvs : List V} {E : XK} (q : tl σ H fun vs H1 => ∀ x dx, H1 x = none → H1 dx = none → dx ≠ x → sp (.ref x :: (vs ++ dvs)) (upd (upd H1 dx (.own x)) x (.ins C dx [])) (fun v H2 => v = .non ∧ Q (.ref x) H2) E) : tMake C sp dvs E tl σ H Q := q
theorem rd_tupT {R : Addr → Prop} {R2 : List V → Prop} (h : H p = some (.tup xs)) (q : R p) : ∃ p' ys, [V.ref p] = [V.ref p'] ∧ ((SqL K H p' ys ∧ R2 ys) ∨ (SqT K H p' ys ∧ R p')) := ⟨p, xs, rfl, .inr ⟨.inl (.inl h), q⟩⟩
theorem rd_addS {i j : Str} (l : i.length + j.length ≤ sizeLine) (q : Q (.str (i ++ j)) H) : ∃ i' j', V.str i = .str i' ∧ V.str j = .str j' ∧ i'.length + j'.length ≤ sizeLine ∧ Q (.str (i' ++ j')) H := ⟨i, j, rfl, rfl, l, q⟩
theorem rd_fmt (q : te σ H fun x H1 => (∃ y : Str, x = .str y ∧ y.length ≤ sizeLine ∧ Q (.str y) H1) ∨ ∃ i : Int, x = .int i ∧ i.natAbs.log2 < 1920 ∧ Q (.str (toString i)) H1) : tFmt te σ H Q := q
theorem rd_fmtS {z : Str} (l : z.length ≤ sizeLine) (q : Q (.str z) H) : (∃ y : Str, V.str z = .str y ∧ y.length ≤ sizeLine ∧ Q (.str y) H) ∨ ∃ i : Int, V.str z = .int i ∧ i.natAbs.log2 < 1920 ∧ Q (.str (toString i)) H := .inl ⟨z, rfl, l, q⟩
theorem log_small {i : Int} (h : i.natAbs ≤ 1000) : i.natAbs.log2 < 1920 := Nat.lt_of_le_of_lt (Nat.log2_le_self _) (by omega)
theorem rd_fmtI {i : Int} (l : i.natAbs.log2 < 1920) (q : Q (.str (toString i)) H) : (∃ y : Str, V.int i = .str y ∧ y.length ≤ sizeLine ∧ Q (.str y) H) ∨ ∃ j : Int, V.int i = .int j ∧ j.natAbs.log2 < 1920 ∧ Q (.str (toString j)) H := .inr ⟨i, rfl, l, q⟩
theorem rd_js {ts : List TE} {acc : Str} {Q : Str → Hp → Prop} (q : ta σ H fun x H1 => ∃ y : Str, x = .str y ∧ (acc ++ y).length ≤ sizeLine ∧ tJs ts (acc ++ y) σ H1 Q) : tJs (ta :: ts) acc σ H Q := q
theorem rd_js0 {acc : Str} {Q : Str → Hp → Prop} (q : Q acc H) : tJs [] acc σ H Q := q
end
theorem walk_r0 {n : Nat} : Walk (Itr 0 n) n (fun _ => True) (fun i H x H' => H' = H ∧ x = .int (i : Nat)) :=
  walk_range.mono (fun _ h => h) fun i H x H' _ _ ⟨h1, h2⟩ => ⟨h1, by rw [h2]; exact congrArg V.int (Int.zero_add _)⟩
theorem cut_to (xs : List V) (i : Nat) : cutV xs none (some (i : Int)) = xs.take i := by
  unfold cutV
  rw [HT.sIx_none, HT.sIx_nat, List.drop_zero, Nat.sub_zero]
  by_cases h : i ≤ xs.length
  · rw [Nat.min_eq_left h]
  · rw [Nat.min_eq_right (by omega), List.take_length, List.take_of_length_le (by omega)]
theorem cut_from (xs : List V) (i : Nat) : cutV xs (some (i : Int)) none = xs.drop i := by
  unfold cutV
  rw [HT.sIx_none, HT.sIx_nat]
  by_cases h : i ≤ xs.length
  · rw [Nat.min_eq_left h, List.take_of_length_le (by rw [List.length_drop]; exact Nat.le_refl _)]
  · rw [Nat.min_eq_right (by omega), List.drop_length, List.take_nil, List.drop_of_length_le (by omega)]
/-- the word of a rule's tuple, its names -/
def Rl.wd : Rl → Str
  | .gap _ _ _ => "gap"
  | .most _ _ => "most"
  | .least _ _ => "least"
def Rl.nm : Rl → List Str
  | .gap x y _ => [x, y]
  | .most x _ => [x]
  | .least x _ => [x]
theorem rv_0 (r : Rl) : atI (rv r) 0 = some (.str r.wd) := by cases r <;> rfl
theorem rv_1 (r : Rl) : atI (rv r) 1 = some (.str (r.nm.head (by cases r <;> exact List.cons_ne_nil _ _))) := by cases r <;> rfl
theorem rv_last (r : Rl) : atI (rv r) (-1) = some (.int r.num) := by cases r <;> rfl
theorem rv_cut (r : Rl) : cutV (rv r) (some 1) (some (-1)) = r.nm.map V.str := by cases r <;> rfl
theorem rv_len (r : Rl) : 3 ≤ (rv r).length ∧ (rv r).length ≤ 4 := by cases r <;> exact ⟨Nat.le_of_ble_eq_true rfl, Nat.le_of_ble_eq_true rfl⟩
def rd_ : Rl → List PyData
  | .gap x y c => [.str "gap", .str x, .str y, .int c]
  | .most x c => [.str "most", .str x, .int c]
  | .least x c => [.str "least", .str x, .int c]
theorem rv_da {N : Addr → Prop} {H : Hp} {a : Addr} {r : Rl} (h : H a = some (.tup (rv r))) : Da N H (.ref a) (.tuple (rd_ r)) := by
  cases r with
  | gap x y c => exact .tup h (.cons (.str _) (.cons (.str _) (.cons (.str _) (.cons (.int _) .nil))))
  | most x c => exact .tup h (.cons (.str _) (.cons (.str _) (.cons (.int _) .nil)))
  | least x c => exact .tup h (.cons (.str _) (.cons (.str _) (.cons (.int _) .nil)))
theorem names_da {N : Addr → Prop} {H : Hp} : ∀ {zs : List Str}, DaAll N H (zs.map V.str) (zs.map PyData.str)
  | [] => .nil
  | _ :: _ => .cons (.str _) names_da
theorem RlOk.nm {N : List Str} {r : Rl} (h : RlOk N r) : ∀ z ∈ r.nm, z ∈ N := by
  cases r with
  | gap x y c =>
    intro z hz
    rcases List.mem_cons.mp hz with rfl | hz
    · exact h.1
    · rw [List.mem_singleton.mp hz]
      exact h.2.1
  | most x c =>
    intro z hz
    rw [List.mem_singleton.mp hz]
    exact h.1
  | least x c =>
    intro z hz
    rw [List.mem_singleton.mp hz]
    exact h.1
theorem RlOk.num {N : List Str} {r : Rl} (h : RlOk N r) : -1000 ≤ r.num ∧ r.num ≤ 1000 := Rl.num_bd r N h
theorem ne_gap : ("most" : Str) ≠ "gap" ∧ ("least" : Str) ≠ "gap" ∧ ("least" : Str) ≠ "most" := by decide +kernel
theorem get_names {zs : List Str} {i : Nat} {v : V} (h : (zs.map V.str)[i]? = some v) : ∃ z, v = .str z ∧ zs[i]? = some z ∧ z ∈ zs := by
  rw [List.getElem?_map] at h
  cases e : zs[i]? with
  | none =>
    rw [e] at h
    cases h
  | some z =>
    rw [e] at h
    cases h
    exact ⟨z, rfl, rfl, List.mem_of_getElem? e⟩
section
variable {K : Frag} {σ : L2.St} {H H' : Hp} {Q : VK} {a b p : Addr} {xs ys : List V} {o : HO}
theorem sqt_new (h : H a = none) (t : SqT K H p xs) : SqT K (upd H a o) p xs := sqt_same t (same_new h)
theorem frz_new (h : H a = none) (t : FrzT H p xs) : FrzT (upd H a o) p xs := t.same (same_new h)
theorem rd_lenTq {R : List V → Prop} (h : SqT K H p xs) (q : R xs) : ∃ p' ys, [V.ref p] = [V.ref p'] ∧ (SqL K H p' ys ∨ SqT K H p' ys) ∧ R ys := ⟨p, xs, rfl, .inr h, q⟩
theorem rd_atTq {R : Addr → Prop} (h : SqT K H p xs) (q : R p) : ∃ a, V.ref p = .ref a ∧ (∃ xs, SqT K H a xs) ∧ R a := ⟨p, rfl, ⟨xs, h⟩, q⟩
theorem rd_atEnq {R : Addr → Prop} (h : SqT K H p xs) (q : R p) : ∃ a xs, [V.ref p] = [.ref a] ∧ SqT K H a xs ∧ R a := ⟨p, xs, rfl, h, q⟩
theorem rd_slTq {lo hi : Option Int} (h : SqT K H a xs) (q : ∀ p H', Same H H' → SqT K H' p (cutV xs lo hi) → Q (.ref p) H') : rSlA K (.ref a) lo hi H Q := by
  refine ⟨a, xs, rfl, h, fun z => q a H (Same.refl H) (by rw [cut_whole z]; exact h), fun _ p hp => q p _ (same_new hp) (.inl (.inl upd_same))⟩
theorem rd_inNq {z : Str} {N : List Str} (h : SqT K H p (N.map V.str)) (q : Q (.bl (decide (z ∈ N))) H) : rIn K false (.str z) (.ref p) H Q :=
  ⟨p, _, rfl, .inr h, rfl, flat_names N, by rw [if_neg Bool.false_ne_true, inV_names]; exact q⟩
theorem rd_tupF {R : Addr → Hp → Prop} (h : H p = some (.lst xs)) (q : ∀ l H', Same H H' → FrzT H' l xs → R l H') : ∃ p' ys, [V.ref p] = [V.ref p'] ∧ SqL K H p' ys ∧ ∀ l H', Same H H' → FrzT H' l ys → R l H' := ⟨p, xs, rfl, .inl (.inl h), q⟩
theorem rd_tm {r : V → List V → Hp → VK → Prop} {to : TE} {t : TA} (q : to σ H fun x H1 => (∃ p xs, x = .ref p ∧ FrzT H1 p xs) ∧ t σ H1 fun xs H2 => r x xs H2 Q) : tTM r to t σ H Q := q
theorem rd_isF {R : Prop} (h : FrzT H p xs) (q : R) : (∃ p' ys, V.ref p = .ref p' ∧ FrzT H p' ys) ∧ R := ⟨⟨p, xs, rfl, h⟩, q⟩
end
end K59
/-! K59P3 -/
set_option Elab.async false
set_option linter.all false
set_option maxRecDepth 100000
set_option maxHeartbeats 4000000
namespace K59
open PySem PySem.W PySem.Calls PySem.Spec PyProof.Rows L2
local macro_rules | `(tactic| walk_at "hp") => `(tactic| first
  | assumption
  | exact upd_same
  | (refine same_new (by assumption) _ _ ?_; walk_at "hp")
  | (refine (by assumption : Same _ _) _ _ ?_; walk_at "hp")
  | (refine FK.tk (by assumption) (by assumption) _ _ ?_; walk_at "hp"))
local macro_rules | `(tactic| walk_at "sq") => `(tactic| first
  | assumption
  | exact FrzT.sq (by assumption)
  | (refine sqt_new (by assumption) ?_; walk_at "sq")
  | (refine sqt_same ?_ (by assumption); walk_at "sq"))
local macro_rules | `(tactic| walk_at "fz") => `(tactic| first
  | assumption
  | (refine frz_new (by assumption) ?_; walk_at "fz")
  | (refine FrzT.same ?_ (by assumption); walk_at "fz"))
local macro_rules | `(tactic| walk_at "ic") => `(tactic| first
  | ((with_reducible show (0 : Int) < _); decide)
  | exact Or.inl ⟨by decide, by decide⟩
  | exact Or.inr ⟨by decide, by decide⟩
  | exact (show (0 : Int) < _ ∧ _ < (1073741824 : Int) from ⟨by decide, by decide⟩)
  | exact (show (0 : Int) ≤ _ ∧ _ ≤ (1000000 : Int) ∧ Int.natAbs _ < 2 ^ 64 from ⟨by decide, by decide, by decide⟩)
  | exact (⟨by decide, by decide, by decide⟩ : _ ∧ _ ∧ _))
local macro_rules | `(tactic| walk_at "st") => `(tactic| first
  | with_reducible refine rd_var rfl ?_
  | with_reducible refine rd_c ?_
  | with_reducible refine rd_cons ?_
  | with_reducible refine rd_nil ?_
  | with_reducible refine rd_op ?_
  | with_reducible refine rd_cb ?_
  | with_reducible refine rd_call ?_
  | with_reducible refine rd_test ?_
  | with_reducible refine rd_B ?_
  | with_reducible refine rd_bl ?_
  | with_reducible refine rd_un ?_
  | with_reducible refine rd_and ?_
  | with_reducible refine rd_or ?_
  | with_reducible refine rd_not ?_
  | with_reducible refine rd_andV ?_
  | with_reducible refine rd_orV ?_
  | with_reducible refine rd_notV ?_
  | with_reducible refine rd_if ?_
  | with_reducible refine rd_chain ?_
  | with_reducible refine rd_I0 ?_
  | with_reducible refine rd_U ?_
  | with_reducible refine rd_eqI ?_
  | with_reducible refine rd_neI ?_
  | with_reducible refine rd_eqS ?_
  | with_reducible refine rd_neS ?_
  | with_reducible refine rd_nn ?_
  | with_reducible refine rd_asg ?_
  | with_reducible refine rd_gname ?_
  | with_reducible refine rd_seq ?_
  | with_reducible refine rd_ifS ?_
  | with_reducible refine rd_ret ?_
  | with_reducible refine rd_next ?_
  | with_reducible refine rd_cont ?_
  | with_reducible refine rd_drop ?_
  | with_reducible refine rd_par ?_
  | with_reducible refine rd_vs2 ?_
  | with_reducible refine rd_gsub ?_
  | with_reducible refine rd_gcons ?_
  | with_reducible refine rd_gnil ?_
  | with_reducible refine rd_tup ?_
  | with_reducible refine rd_lst ?_
  | with_reducible refine rd_sl ?_
  | with_reducible refine rd_part ?_
  | with_reducible refine rd_nopart ?_
  | with_reducible refine rd_i1 ?_
  | with_reducible refine rd_bm ?_
  | with_reducible refine rd_yes ?_
  | with_reducible refine rd_lcT ?_
  | with_reducible refine rd_lcL ?_
  | with_reducible refine rd_lcR1 ?_
  | with_reducible refine rd_lcS ?_
  | with_reducible refine rd_forT ?_
  | with_reducible refine rd_forL ?_
  | with_reducible refine rd_forR1 ?_
  | with_reducible refine rd_atS ?_
  | with_reducible refine rd_forEn ?_
  | with_reducible refine rd_dget ?_
  | with_reducible refine rd_din ?_
  | with_reducible refine rd_dget2 ?_
  | with_reducible refine rd_dput ?_
  | with_reducible refine rd_disp ?_
  | with_reducible refine rd_pcons ?_
  | with_reducible refine rd_pnil ?_
  | with_reducible refine rd_dcL ?_
  | with_reducible refine rd_lcEn ?_
  | with_reducible refine rd_yS ?_
  | with_reducible refine rd_m1 ?_
  | with_reducible refine rd_meth ?_
  | with_reducible refine rd_fld ?_
  | with_reducible refine rd_sfld ?_
  | with_reducible refine rd_make ?_
  | with_reducible refine rd_fmt ?_
  | with_reducible refine rd_js ?_
  | with_reducible refine rd_js0 ?_
  | with_reducible refine iteT ?_
  | with_reducible refine iteF ?_
  | ((with_reducible refine isi_int (d := ?d1) (N := ?n1) ?h1 ?_); (case h1 => assumption))
  | ((with_reducible refine isi_bool (d := ?d1) (N := ?n1) ?h1 ?_); (case h1 => assumption))
  | ((with_reducible refine isi_str (d := ?d1) (N := ?n1) ?h1 ?_); (case h1 => assumption))
  | ((with_reducible refine isi_tuple (d := ?d1) (N := ?n1) ?h1 ?_); (case h1 => assumption))
  | with_reducible refine isi_str (N := fun _ => True) (Da.str _) ?_
  | with_reducible refine isi_int (N := fun _ => True) (Da.int _) ?_
  | with_reducible refine isi_bool (N := fun _ => True) (Da.int _) ?_
  | with_reducible refine isi_str (N := fun _ => True) (Da.int _) ?_
  | ((with_reducible show (wipe _ _ = wipe _ _) ∧ _); refine ⟨rfl, ?_⟩)
  | ((with_reducible show Ends.nx _ _ _); dsimp only)
  | ((with_reducible show Ends.rt _ _ _); dsimp only)
  | ((with_reducible show Ends.ct _ _ _); dsimp only)
  | ((with_reducible refine rd_ixT (xs := ?x1) (v := ?v1) ?h1 ?e1 ?_); (case h1 => walk_at "hp"); (case e1 => rfl))
  | ((with_reducible refine rd_ixL (xs := ?x1) (v := ?v1) ?h1 ?e1 ?_); (case h1 => walk_at "hp"); (case e1 => rfl))
  | ((with_reducible refine rd_lenT (xs := ?x1) ?h1 ?_); (case h1 => walk_at "hp"))
  | ((with_reducible refine rd_lenL (xs := ?x1) ?h1 ?_); (case h1 => walk_at "hp"))
  | ((with_reducible refine rd_tupOf (xs := ?x1) ?h1 ?_); (case h1 => walk_at "hp"))
  | ((with_reducible refine rd_all (bs := ?x1) ?h1 ?_); (case h1 => walk_at "hp"))
  | ((with_reducible refine rd_atT (xs := ?x1) ?h1 ?_); (case h1 => walk_at "hp"))
  | ((with_reducible refine rd_atL (xs := ?x1) ?h1 ?_); (case h1 => walk_at "hp"))
  | ((with_reducible refine rd_gtup (xs := ?x1) ?h1 ?e1 ?_); (case h1 => walk_at "hp"); (case e1 => rfl))
  | ((with_reducible refine rd_atEn (xs := ?x1) ?h1 ?_); (case h1 => walk_at "hp"))
  | ((with_reducible refine rd_slT (xs := ?x1) ?h1 ?_); (case h1 => walk_at "hp"))
  | ((with_reducible refine rd_slL (xs := ?x1) ?h1 ?_); (case h1 => walk_at "hp"))
  | ((with_reducible refine rd_inN (N := ?x1) ?h1 ?_); (case h1 => walk_at "hp"))
  | ((with_reducible refine rd_inL (N := ?x1) ?h1 ?_); (case h1 => walk_at "hp"))
  | ((with_reducible refine rd_notInN (N := ?x1) ?h1 ?_); (case h1 => walk_at "hp"))
  | ((with_reducible refine rd_notInL (N := ?x1) ?h1 ?_); (case h1 => walk_at "hp"))
  | with_reducible refine rd_tm ?_
  | ((with_reducible refine rd_isF (xs := ?x1) ?h1 ?_); (case h1 => walk_at "fz"))
  | ((with_reducible refine rd_lenTq (xs := ?x1) ?h1 ?_); (case h1 => walk_at "sq"))
  | ((with_reducible refine rd_atTq (xs := ?x1) ?h1 ?_); (case h1 => walk_at "sq"))
  | ((with_reducible refine rd_atEnq (xs := ?x1) ?h1 ?_); (case h1 => walk_at "sq"))
  | ((with_reducible refine rd_slTq (xs := ?x1) ?h1 ?_); (case h1 => walk_at "sq"))
  | ((with_reducible refine rd_inNq (N := ?x1) ?h1 ?_); (case h1 => walk_at "sq"))
  | ((with_reducible refine rd_setL (xs := ?x1) (j := ?j1) ?h1 ?e1 ?_); (case h1 => walk_at "hp"); (case e1 => rfl))
  | with_reducible refine rd_int1 ?_
  | with_reducible refine rd_x1 ?_
  | with_reducible refine rd_x2 ?_
  | ((with_reducible refine rd_tyL (xs := ?x1) ?h1 ?_); (case h1 => walk_at "hp"))
  | ((with_reducible refine rd_ixsL (xs := ?x1) (v := ?v1) ?h1 ?e1 ?_); (case h1 => walk_at "hp"); (case e1 => rfl))
  | ((with_reducible refine rd_ixsT (xs := ?x1) (v := ?v1) ?h1 ?e1 ?_); (case h1 => walk_at "hp"); (case e1 => rfl))
  | ((with_reducible refine rd_I ?c1 ?_); (case c1 => walk_at "ic"))
  | ((with_reducible refine if_t ?hb1 ?_); (case hb1 => rfl))
  | ((with_reducible refine if_f ?hb1 ?_); (case hb1 => rfl)))
local macro_rules | `(tactic| walk_at "go") => `(tactic| repeat (first | walk_at "st" | dsimp only))
section
variable {P : Program} {w : World} {K : Frag} {mg : Str → Option Value} {base : Heap}

theorem Same.none {H H1 : Hp} {a : Addr} (s : Same H H1) (h : H1 a = none) : H a = none := by
  cases e : H a with
  | none => rfl
  | some o =>
    rw [s a o e] at h
    cases h
theorem RowAt.kp {H0 H1 H2 : Hp} {n : Nat} {r L : Addr} (h : RowAt H0 H1 n r) (k : Kp L H1 H2) (ne : r ≠ L) : RowAt H0 H2 n r := by
  obtain ⟨a, xs, e, l, c⟩ := h
  exact ⟨a, xs, k _ _ e ne, l, c⟩
theorem RowAt.same {H0 H1 H2 : Hp} {n : Nat} {r : Addr} (h : RowAt H0 H1 n r) (k : Same H1 H2) : RowAt H0 H2 n r := by
  obtain ⟨a, xs, e, l, c⟩ := h
  exact ⟨a, xs, k _ _ e, l, c⟩
theorem Mat.same {H0 H1 H2 : Hp} {n : Nat} {t : Addr} (h : Mat H0 H1 n t) (k : Same H1 H2) : Mat H0 H2 n t := by
  obtain ⟨rows, h1, h2, h3, h4⟩ := h
  exact ⟨rows, k _ _ h1, h2, h3, fun r hr => ⟨(h4 r hr).1, (h4 r hr).2.same k⟩⟩
theorem Mat.get {H0 H : Hp} {n : Nat} {t : Addr} (m : Mat H0 H n t) {i j : Nat} (hi : i < n) (hj : j < n) : ∃ (rows : List V) (r : Addr) (xs : List V) (v : V), H t = some (.lst rows) ∧ atI rows (i : Int) = some (.ref r) ∧ H r = some (.lst xs) ∧ atI xs (j : Int) = some v ∧ cellV v := by
  obtain ⟨rows, h1, h2, h3, h4⟩ := m
  obtain ⟨r, e1, e2, e3⟩ := get_map (h3 ▸ hi : i < rows.length)
  obtain ⟨_, _, xs, e4, e5, e6⟩ := h4 r e2
  have hj2 : j < xs.length := e5 ▸ hj
  exact ⟨_, r, xs, xs[j], h1, atI_nat e3, e4, atI_nat (List.getElem?_eq_getElem hj2), e6 _ (List.getElem_mem hj2)⟩
def RowsAt (H0 : Hp) (n : Nat) (L : Addr) (j : Nat) (acc : List V) (H1 : Hp) : Prop := ∃ rows : List Addr, acc = rows.map V.ref ∧ rows.length = j ∧ ∀ r ∈ rows, r ≠ L ∧ RowAt H0 H1 n r
theorem RowsAt.kp {H0 : Hp} {n : Nat} (L : Addr) (j : Nat) (acc : List V) (H1 H2 : Hp) (k : Kp L H1 H2) (h : RowsAt H0 n L j acc H1) : RowsAt H0 n L j acc H2 := by
  obtain ⟨rows, a, b, c⟩ := h
  exact ⟨rows, a, b, fun r hr => ⟨(c r hr).1, (c r hr).2.kp k (c r hr).1⟩⟩
theorem RowsAt.snoc {H0 H1 H2 : Hp} {n : Nat} {L : Addr} {j : Nat} {acc : List V} {r : Addr} (h : RowsAt H0 n L j acc H1) (k : Same H1 H2) (ne : r ≠ L) (e : RowAt H0 H2 n r) : RowsAt H0 n L (j + 1) (acc ++ [.ref r]) H2 := by
  obtain ⟨rows, rfl, b, c⟩ := h
  refine ⟨rows ++ [r], by rw [List.map_append] <;> rfl, by rw [List.length_append, b] <;> rfl, fun q hq => ?_⟩
  rcases List.mem_append.mp hq with h | h
  · exact ⟨(c q h).1, (c q h).2.same k⟩
  · rw [List.mem_singleton.mp h]
    exact ⟨ne, e⟩
theorem RowsAt.mat {H0 H1 : Hp} {n : Nat} {L : Addr} {acc : List V} (h : RowsAt H0 n L n acc H1) (e : H1 L = some (.lst acc)) (f : H0 L = none) : Mat H0 H1 n L := by
  obtain ⟨rows, rfl, b, c⟩ := h
  exact ⟨rows, e, f, b, c⟩
theorem int62 {n : Nat} (h : n ≤ 1000) : -(2 ^ 62) ≤ (n : Int) ∧ (n : Int) < 2 ^ 62 := by omega
abbrev N_empty_table : List Str := ["many", "other", "one"]
theorem sc_empty_table : FnScope N_empty_table ["many"] (defScope s_empty_table) := ⟨rfl, rfl, rfl, by decide +kernel, rfl, by decide +kernel, by decide +kernel⟩
def lcScope : Expr → Scope
  | .ListComp _ _ s _ => s
  | _ => default
def retOf : List Stmt → Expr
  | [.Return (some e) _] => e
  | _ => default
abbrev sc1_empty : Scope := lcScope (retOf (defBody s_empty_table))
def sp_empty_table : Sp := fun vs H Q _ => ∃ n : Nat, vs = [.int n] ∧ n ≤ 1000 ∧ ∀ H' t, Same H H' → Mat H H' n t → Q (.ref t) H'
theorem c_empty_table (S : Sys K mg) : C8.Cal P w K mg base 1 "empty_table" sp_empty_table [] := by
  refine calD S.f_D_empty_table S.g_empty_table sc_empty_table (fun _ _ _ _ _ _ us hl => match us, hl with | [_], _ => rfl) ?_ ?_
  · rintro vs H Q E ⟨_, rfl, _⟩
    rfl
  · rintro cdv A outer s H vs Q E hr ⟨n, rfl, hn, q⟩
    refine ⟨_, pss_one (ps_ret (pe_lc (own := [("one", 2)]) (g := gName 2) (tt := tYes) rfl sc_empty_table.nd (pi_range1 (by rfl) S.n_range (pa_cons (pv 0) pa_nil)) (blkOk_by (N := N_empty_table) (sc := defScope s_empty_table) (by decide +kernel)) (fun _ _ _ _ _ => (pg_name (i := 2) sc_empty_table.nd rfl (Or.inr rfl))) (fun _ _ _ _ _ => pts_nil) (fun _ _ _ _ _ => (pe_lc (own := [("other", 1)]) (g := gName 1) (tt := tYes) rfl sc_empty_table.nd (pi_range1 (by rfl) S.n_range (pa_cons (pv 0) pa_nil)) (blkOk_by (N := N_empty_table) (sc := relS sc1_empty (defScope s_empty_table)) (by decide +kernel)) (fun _ _ _ _ _ => (pg_name (i := 1) sc_empty_table.nd rfl (Or.inl rfl))) (fun _ _ _ _ _ => pts_nil) (fun _ _ _ _ _ => (pe_ifExp (pt_cmpR op_eq (pv 2) (pv 1) (nomark _)) pe_int pe_non)))))), ?_⟩
    walk_at "go"
    refine rd_atR (int62 hn).1 (int62 hn).2 ?_
    refine lcK (n := n) walk_r0 (RowsAt H n) (fun L hL => ⟨[], rfl, rfl, fun r h => by cases h⟩) RowsAt.kp (by omega) (fun _ _ => trivial) (fun L j x acc H1 H1' hj s hL eL f l hY Qy Qn hQ _ => ?_) fun L H1 acc hL s e f _ => q _ _ s (f.mat e hL)
    obtain ⟨rfl, rfl⟩ := hY
    walk_at "go"
    refine rd_atR (int62 hn).1 (int62 hn).2 ?_
    refine lcW (n := n) walk_r0 (fun i acc _ => acc.length = i ∧ ∀ x ∈ acc, cellV x) (fun _ _ _ _ _ h => h) ⟨rfl, fun x h => by cases h⟩ (by omega) (fun _ _ => trivial) (fun i x acc2 H2 H2' hi s2 f2 l2 hY Qy2 Qn2 hQ2 _ => ?_) fun L2 H2 acc2 hL2 s2 e2 f2 _ => ?_
    · obtain ⟨rfl, rfl⟩ := hY
      have put : ∀ v, cellV v → Qy2 v H2' := fun v c => hQ2 v H2' (Same.refl _) ⟨by rw [List.length_append, f2.1] <;> rfl, fun x hx => by
        rcases List.mem_append.mp hx with h | h
        · exact f2.2 x h
        · rw [List.mem_singleton.mp h]
          exact c⟩
      walk_at "go"
      refine ifb (fun h => ?_) fun h => ?_
      · walk_at "go"
        exact put _ (.inr ⟨0, rfl⟩)
      · walk_at "go"
        exact put _ (.inl rfl)
    · refine hQ (.ref L2) H2 s2 (f.snoc s2 (fun z => ?_) ⟨Same.none s hL2, acc2, e2, f2.1, f2.2⟩)
      rw [z, eL] at hL2
      cases hL2
abbrev N_closed : List Str := ["table", "found", "row", "middle", "one", "other"]
theorem sc_closed : FnScope N_closed ["table"] (defScope s_closed) := ⟨rfl, rfl, rfl, by decide +kernel, rfl, by decide +kernel, by decide +kernel⟩
def sp_closed : Sp := fun vs H Q _ => ∃ H0, ∃ n : Nat, ∃ t, vs = [.ref t] ∧ n ≤ 1000 ∧ Mat H0 H n t ∧ ∀ H' t', Same H H' → Q (.ref t') H'
theorem c_closed (S : Sys K mg) : C8.Cal P w K mg base 2 "closed" sp_closed [] := by
  refine calD S.f_D_closed S.g_closed sc_closed (fun _ _ _ _ _ _ us hl => match us, hl with | [_], _ => rfl) ?_ ?_
  · rintro vs H Q E ⟨_, _, _, rfl, _⟩
    rfl
  · rintro cdv A outer s H vs Q E hr ⟨H0, n, t, rfl, hn, m, q⟩
    refine ⟨_, pss_cons (ps_setLc (i := 1) (own := [("row", 2)]) (g := gName 2) (tt := tYes) rfl sc_closed.nd rfl rfl (sw_true rfl rfl rfl (by decide +kernel)) (pi_listC (K := K) rfl (pv 0)) (blkOk_by (N := N_closed) (sc := defScope s_closed) (by decide +kernel)) (fun _ _ _ _ _ => (pg_name (i := 2) sc_closed.nd rfl (Or.inl rfl))) (fun _ _ _ _ _ => pts_nil) (fun _ _ _ _ _ => (pe_callTy (call_list_ofC (K := K) rfl) (by rfl) S.n_list (by decide +kernel) (pa_cons (pv 2) pa_nil))))
      (pss_cons (ps_for PassesOwn.never rfl (pi_range1 (by rfl) S.n_range (pa_cons (pe_callB (call_len_seqC (K := K) rfl) (by rfl) S.n_len (by decide +kernel) (pa_cons (pv 1) pa_nil)) pa_nil)) (pg_name (i := 3) sc_closed.nd rfl (Or.inl rfl))
        (pss_one (ps_for PassesOwn.never rfl (pi_range1 (by rfl) S.n_range (pa_cons (pe_callB (call_len_seqC (K := K) rfl) (by rfl) S.n_len (by decide +kernel) (pa_cons (pv 1) pa_nil)) pa_nil)) (pg_name (i := 4) sc_closed.nd rfl (Or.inl rfl))
        (pss_one (ps_for PassesOwn.never rfl (pi_range1 (by rfl) S.n_range (pa_cons (pe_callB (call_len_seqC (K := K) rfl) (by rfl) S.n_len (by decide +kernel) (pa_cons (pv 1) pa_nil)) pa_nil)) (pg_name (i := 5) sc_closed.nd rfl (Or.inl rfl))
        (pss_one (ps_if (PW.pt (pw_and (pt_cmpR op_notN (pe_ix (ix_listC (K := K) rfl) (pe_ix (ix_listC (K := K) rfl) (pv 1) (pv 4) (fun _ _ => rfl)) (pv 3) (fun _ _ => rfl)) pe_non (nomark _)) (pw_and1 (pt_cmpR op_notN (pe_ix (ix_listC (K := K) rfl) (pe_ix (ix_listC (K := K) rfl) (pv 1) (pv 3) (fun _ _ => rfl)) (pv 5) (fun _ _ => rfl)) pe_non (nomark _))))) (pss_one (ps_expr (C8.pe_c (c_put (K := K) S) hr (by decide) rfl (pa_cons (pv 1) (pa_cons (pv 4) (pa_cons (pv 5) (pa_cons (pe_op op_add (pe_ix (ix_listC (K := K) rfl) (pe_ix (ix_listC (K := K) rfl) (pv 1) (pv 4) (fun _ _ => rfl)) (pv 3) (fun _ _ => rfl)) (pe_ix (ix_listC (K := K) rfl) (pe_ix (ix_listC (K := K) rfl) (pv 1) (pv 3) (fun _ _ => rfl)) (pv 5) (fun _ _ => rfl))) pa_nil))))))) pss_nil)))))))
      (pss_one (ps_ret (pv 1)))), ?_⟩
    obtain ⟨rows, m1, m2, m3, m4⟩ := m
    walk_at "go"
    refine lcK (n := n) (m3 ▸ (List.length_map (as := rows) V.ref ▸ walk_list)) (RowsAt H n) (fun L hL => ⟨[], rfl, rfl, fun r h => by cases h⟩) RowsAt.kp (by omega) (fun _ s => .inl (.inl (s _ _ m1))) (fun L j x acc H1 H1' hj s hL eL f l hY Qy Qn hQ _ => ?_) fun L H1 acc hL s e f _ => ?_
    · obtain ⟨rfl, hx⟩ := hY
      obtain ⟨r, e1, e2, e3⟩ := get_map (m3.symm ▸ hj : j < rows.length)
      rw [e3] at hx
      cases hx
      obtain ⟨_, _, xs, g1, g2, g3⟩ := m4 r e2
      walk_at "go"
      intro l hl
      refine hQ _ _ (same_new hl) (f.snoc (same_new hl) (fun z => ?_) ⟨Same.none s hl, xs, upd_same, g2, g3⟩)
      rw [z, eL] at hl
      cases hl
    · have M := f.mat e hL
      have ln : ∀ H2, Mat H H2 n L → ∃ rows2 : List V, H2 L = some (.lst rows2) ∧ rows2.length = n := fun H2 M2 => by
        obtain ⟨rows2, a1, a2, a3, a4⟩ := M2
        exact ⟨_, a1, by rw [List.length_map, a3]⟩
      let Pv : Nat → L2.St → Hp → Prop := fun _ σ H2 => ∃ x2 x3 x4 x5, σ = [some (.ref t), some (.ref L), x2, x3, x4, x5] ∧ Same H H2 ∧ Mat H H2 n L
      obtain ⟨rw0, l0, l1⟩ := ln _ M
      walk_at "go"
      rw [l1]
      refine rd_atR (int62 hn).1 (int62 hn).2 ?_
      refine forW (n := n) walk_r0 Pv ⟨_, _, _, _, rfl, s, M⟩ (fun _ _ _ _ _ => trivial) (fun i x σ H2 H2' hi ⟨x2, x3, x4, x5, eσ, s2, M2⟩ hY => ?_) fun σ H2 ⟨x2, x3, x4, x5, eσ, s2, M2⟩ => ?_
      · obtain ⟨rfl, rfl⟩ := hY
        subst eσ
        obtain ⟨rw0, l0, l1⟩ := ln _ M2
        walk_at "go"
        rw [l1]
        refine rd_atR (int62 hn).1 (int62 hn).2 ?_
        refine forW (n := n) walk_r0 (fun _ σ H2 => ∃ x2 x4 x5, σ = [some (.ref t), some (.ref L), x2, some (.int (i : Nat)), x4, x5] ∧ Same H H2 ∧ Mat H H2 n L) ⟨_, _, _, rfl, s2, M2⟩ (fun _ _ _ _ _ => trivial) (fun j x σ H3 H3' hj ⟨x2, x4, x5, eσ, s2, M2⟩ hY => ?_) fun σ H2 ⟨x2, x4, x5, eσ, s2, M2⟩ => ?_
        · obtain ⟨rfl, rfl⟩ := hY
          subst eσ
          obtain ⟨rw0, l0, l1⟩ := ln _ M2
          walk_at "go"
          rw [l1]
          refine rd_atR (int62 hn).1 (int62 hn).2 ?_
          refine forW (n := n) walk_r0 (fun _ σ H2 => ∃ x2 x5, σ = [some (.ref t), some (.ref L), x2, some (.int (i : Nat)), some (.int (j : Nat)), x5] ∧ Same H H2 ∧ Mat H H2 n L) ⟨_, _, rfl, s2, M2⟩ (fun _ _ _ _ _ => trivial) (fun o x σ H4 H4' ho ⟨x2, x5, eσ, s2, M2⟩ hY => ?_) fun σ H2 ⟨x2, x5, eσ, s2, M2⟩ => ?_
          · obtain ⟨rfl, rfl⟩ := hY
            subst eσ
            obtain ⟨r1, b1, c1, v1, d1, d2, d3, d4, d5⟩ := M2.get hj hi
            obtain ⟨r2, b2, c2, v2, f1, f2, f3, f4, f5⟩ := M2.get hi ho
            walk_at "go"
            refine rd_ixL d1 d2 ?_
            walk_at "go"
            refine rd_ixL d3 d4 ?_
            walk_at "go"
            refine ifb (fun h => ?_) fun h => ?_
            · walk_at "go"
              refine rd_ixL f1 f2 ?_
              walk_at "go"
              refine rd_ixL f3 f4 ?_
              walk_at "go"
              refine ifb (fun h' => ?_) fun h' => ?_
              · rcases d5 with rfl | ⟨i1, rfl⟩
                · cases h
                rcases f5 with rfl | ⟨i2, rfl⟩
                · cases h'
                walk_at "go"
                refine rd_ixL d1 d2 ?_
                walk_at "go"
                refine rd_ixL d3 d4 ?_
                walk_at "go"
                refine rd_ixL f1 f2 ?_
                walk_at "go"
                refine rd_ixL f3 f4 ?_
                walk_at "go"
                exact ⟨H, n, L, j, o, _, rfl, hj, ho, s2, M2, fun H' s' _ M' => ⟨_, _, rfl, s', M'⟩⟩
              · walk_at "go"
                exact ⟨_, _, rfl, s2, M2⟩
            · walk_at "go"
              exact ⟨_, _, rfl, s2, M2⟩
          · subst eσ
            exact ⟨_, _, _, rfl, s2, M2⟩
        · subst eσ
          exact ⟨_, _, _, _, rfl, s2, M2⟩
      · subst eσ
        walk_at "go"
        exact q _ _ s2
end
end K59
/-! K59P4 -/
set_option Elab.async false
set_option linter.all false
set_option maxRecDepth 100000
set_option maxHeartbeats 4000000
namespace K59
open PySem PySem.W PySem.Calls PySem.Spec PyProof.Rows L2
local macro_rules | `(tactic| walk_at "hp") => `(tactic| first
  | assumption
  | exact upd_same
  | (refine same_new (by assumption) _ _ ?_; walk_at "hp")
  | (refine (by assumption : Same _ _) _ _ ?_; walk_at "hp")
  | (refine FK.tk (by assumption) (by assumption) _ _ ?_; walk_at "hp"))
local macro_rules | `(tactic| walk_at "sq") => `(tactic| first
  | assumption
  | exact FrzT.sq (by assumption)
  | (refine sqt_new (by assumption) ?_; walk_at "sq")
  | (refine sqt_same ?_ (by assumption); walk_at "sq"))
local macro_rules | `(tactic| walk_at "fz") => `(tactic| first
  | assumption
  | (refine frz_new (by assumption) ?_; walk_at "fz")
  | (refine FrzT.same ?_ (by assumption); walk_at "fz"))
local macro_rules | `(tactic| walk_at "ic") => `(tactic| first
  | ((with_reducible show (0 : Int) < _); decide)
  | exact Or.inl ⟨by decide, by decide⟩
  | exact Or.inr ⟨by decide, by decide⟩
  | exact (show (0 : Int) < _ ∧ _ < (1073741824 : Int) from ⟨by decide, by decide⟩)
  | exact (show (0 : Int) ≤ _ ∧ _ ≤ (1000000 : Int) ∧ Int.natAbs _ < 2 ^ 64 from ⟨by decide, by decide, by decide⟩)
  | exact (⟨by decide, by decide, by decide⟩ : _ ∧ _ ∧ _))
local macro_rules | `(tactic| walk_at "st") => `(tactic| first
  | with_reducible refine rd_var rfl ?_
  | with_reducible refine rd_c ?_
  | with_reducible refine rd_cons ?_
  | with_reducible refine rd_nil ?_
  | with_reducible refine rd_op ?_
  | with_reducible refine rd_cb ?_
  | with_reducible refine rd_call ?_
  | with_reducible refine rd_test ?_
  | with_reducible refine rd_B ?_
  | with_reducible refine rd_bl ?_
  | with_reducible refine rd_un ?_
  | with_reducible refine rd_and ?_
  | with_reducible refine rd_or ?_
  | with_reducible refine rd_not ?_
  | with_reducible refine rd_andV ?_
  | with_reducible refine rd_orV ?_
  | with_reducible refine rd_notV ?_
  | with_reducible refine rd_if ?_
  | with_reducible refine rd_chain ?_
  | with_reducible refine rd_I0 ?_
  | with_reducible refine rd_U ?_
  | with_reducible refine rd_eqI ?_
  | with_reducible refine rd_neI ?_
  | with_reducible refine rd_eqS ?_
  | with_reducible refine rd_neS ?_
  | with_reducible refine rd_nn ?_
  | with_reducible refine rd_asg ?_
  | with_reducible refine rd_gname ?_
  | with_reducible refine rd_seq ?_
  | with_reducible refine rd_ifS ?_
  | with_reducible refine rd_ret ?_
  | with_reducible refine rd_next ?_
  | with_reducible refine rd_cont ?_
  | with_reducible refine rd_drop ?_
  | with_reducible refine rd_par ?_
  | with_reducible refine rd_vs2 ?_
  | with_reducible refine rd_gsub ?_
  | with_reducible refine rd_gcons ?_
  | with_reducible refine rd_gnil ?_
  | with_reducible refine rd_tup ?_
  | with_reducible refine rd_lst ?_
  | with_reducible refine rd_sl ?_
  | with_reducible refine rd_part ?_
  | with_reducible refine rd_nopart ?_
  | with_reducible refine rd_i1 ?_
  | with_reducible refine rd_bm ?_
  | with_reducible refine rd_yes ?_
  | with_reducible refine rd_lcT ?_
  | with_reducible refine rd_lcL ?_
  | with_reducible refine rd_lcR1 ?_
  | with_reducible refine rd_lcS ?_
  | with_reducible refine rd_forT ?_
  | with_reducible refine rd_forL ?_
  | with_reducible refine rd_forR1 ?_
  | with_reducible refine rd_atS ?_
  | with_reducible refine rd_forEn ?_
  | with_reducible refine rd_dget ?_
  | with_reducible refine rd_din ?_
  | with_reducible refine rd_dget2 ?_
  | with_reducible refine rd_dput ?_
  | with_reducible refine rd_disp ?_
  | with_reducible refine rd_pcons ?_
  | with_reducible refine rd_pnil ?_
  | with_reducible refine rd_dcL ?_
  | with_reducible refine rd_lcEn ?_
  | with_reducible refine rd_yS ?_
  | with_reducible refine rd_m1 ?_
  | with_reducible refine rd_meth ?_
  | with_reducible refine rd_fld ?_
  | with_reducible refine rd_sfld ?_
  | with_reducible refine rd_make ?_
  | with_reducible refine rd_fmt ?_
  | with_reducible refine rd_js ?_
  | with_reducible refine rd_js0 ?_
  | with_reducible refine iteT ?_
  | with_reducible refine iteF ?_
  | ((with_reducible refine isi_int (d := ?d1) (N := ?n1) ?h1 ?_); (case h1 => assumption))
  | ((with_reducible refine isi_bool (d := ?d1) (N := ?n1) ?h1 ?_); (case h1 => assumption))
  | ((with_reducible refine isi_str (d := ?d1) (N := ?n1) ?h1 ?_); (case h1 => assumption))
  | ((with_reducible refine isi_tuple (d := ?d1) (N := ?n1) ?h1 ?_); (case h1 => assumption))
  | with_reducible refine isi_str (N := fun _ => True) (Da.str _) ?_
  | with_reducible refine isi_int (N := fun _ => True) (Da.int _) ?_
  | with_reducible refine isi_bool (N := fun _ => True) (Da.int _) ?_
  | with_reducible refine isi_str (N := fun _ => True) (Da.int _) ?_
  | ((with_reducible show (wipe _ _ = wipe _ _) ∧ _); refine ⟨rfl, ?_⟩)
  | ((with_reducible show Ends.nx _ _ _); dsimp only)
  | ((with_reducible show Ends.rt _ _ _); dsimp only)
  | ((with_reducible show Ends.ct _ _ _); dsimp only)
  | ((with_reducible refine rd_ixT (xs := ?x1) (v := ?v1) ?h1 ?e1 ?_); (case h1 => walk_at "hp"); (case e1 => rfl))
  | ((with_reducible refine rd_ixL (xs := ?x1) (v := ?v1) ?h1 ?e1 ?_); (case h1 => walk_at "hp"); (case e1 => rfl))
  | ((with_reducible refine rd_lenT (xs := ?x1) ?h1 ?_); (case h1 => walk_at "hp"))
  | ((with_reducible refine rd_lenL (xs := ?x1) ?h1 ?_); (case h1 => walk_at "hp"))
  | ((with_reducible refine rd_tupOf (xs := ?x1) ?h1 ?_); (case h1 => walk_at "hp"))
  | ((with_reducible refine rd_all (bs := ?x1) ?h1 ?_); (case h1 => walk_at "hp"))
  | ((with_reducible refine rd_atT (xs := ?x1) ?h1 ?_); (case h1 => walk_at "hp"))
  | ((with_reducible refine rd_atL (xs := ?x1) ?h1 ?_); (case h1 => walk_at "hp"))
  | ((with_reducible refine rd_gtup (xs := ?x1) ?h1 ?e1 ?_); (case h1 => walk_at "hp"); (case e1 => rfl))
  | ((with_reducible refine rd_atEn (xs := ?x1) ?h1 ?_); (case h1 => walk_at "hp"))
  | ((with_reducible refine rd_slT (xs := ?x1) ?h1 ?_); (case h1 => walk_at "hp"))
  | ((with_reducible refine rd_slL (xs := ?x1) ?h1 ?_); (case h1 => walk_at "hp"))
  | ((with_reducible refine rd_inN (N := ?x1) ?h1 ?_); (case h1 => walk_at "hp"))
  | ((with_reducible refine rd_inL (N := ?x1) ?h1 ?_); (case h1 => walk_at "hp"))
  | ((with_reducible refine rd_notInN (N := ?x1) ?h1 ?_); (case h1 => walk_at "hp"))
  | ((with_reducible refine rd_notInL (N := ?x1) ?h1 ?_); (case h1 => walk_at "hp"))
  | with_reducible refine rd_tm ?_
  | ((with_reducible refine rd_isF (xs := ?x1) ?h1 ?_); (case h1 => walk_at "fz"))
  | ((with_reducible refine rd_lenTq (xs := ?x1) ?h1 ?_); (case h1 => walk_at "sq"))
  | ((with_reducible refine rd_atTq (xs := ?x1) ?h1 ?_); (case h1 => walk_at "sq"))
  | ((with_reducible refine rd_atEnq (xs := ?x1) ?h1 ?_); (case h1 => walk_at "sq"))
  | ((with_reducible refine rd_slTq (xs := ?x1) ?h1 ?_); (case h1 => walk_at "sq"))
  | ((with_reducible refine rd_inNq (N := ?x1) ?h1 ?_); (case h1 => walk_at "sq"))
  | ((with_reducible refine rd_setL (xs := ?x1) (j := ?j1) ?h1 ?e1 ?_); (case h1 => walk_at "hp"); (case e1 => rfl))
  | with_reducible refine rd_int1 ?_
  | with_reducible refine rd_x1 ?_
  | with_reducible refine rd_x2 ?_
  | ((with_reducible refine rd_tyL (xs := ?x1) ?h1 ?_); (case h1 => walk_at "hp"))
  | ((with_reducible refine rd_ixsL (xs := ?x1) (v := ?v1) ?h1 ?e1 ?_); (case h1 => walk_at "hp"); (case e1 => rfl))
  | ((with_reducible refine rd_ixsT (xs := ?x1) (v := ?v1) ?h1 ?e1 ?_); (case h1 => walk_at "hp"); (case e1 => rfl))
  | ((with_reducible refine rd_I ?c1 ?_); (case c1 => walk_at "ic"))
  | ((with_reducible refine if_t ?hb1 ?_); (case hb1 => rfl))
  | ((with_reducible refine if_f ?hb1 ?_); (case hb1 => rfl)))
local macro_rules | `(tactic| walk_at "go") => `(tactic| repeat (first | walk_at "st" | dsimp only))
section
variable {P : Program} {w : World} {K : Frag} {mg : Str → Option Value} {base : Heap}
abbrev N_is_rule : List Str := ["value", "fields", "field"]
theorem sc_is_rule : FnScope N_is_rule ["value", "fields"] (defScope s_is_rule) := ⟨rfl, rfl, rfl, by decide +kernel, rfl, by decide +kernel, by decide +kernel⟩
def sp_is_rule (K : Frag) : Sp := fun vs H Q _ => ∃ a pf, ∃ N : List Str, ∃ r, vs = [.ref a, .ref pf] ∧ H a = some (.tup (rv r)) ∧ SqT K H pf (N.map V.str) ∧ RlOk N r ∧ ∀ H', Same H H' → Q (.bl true) H'
theorem c_is_rule (S : Sys K mg) : C8.Cal P w K mg base 3 "is_rule" (sp_is_rule K) [] := by
  refine calD S.f_D_is_rule S.g_is_rule sc_is_rule (fun _ _ _ _ _ _ us hl => match us, hl with | [_, _], _ => rfl) ?_ ?_
  · rintro vs H Q E ⟨_, _, _, _, rfl, _⟩
    rfl
  · rintro cdv A outer s H vs Q E hr ⟨a, pf, N, r, rfl, ha, hf, ok, q⟩
    refine ⟨_, pss_cons (ps_if (PW.pt (pw_or (pt_not (pt_val (pe_callB (call_isiC (K := K) rfl) (by rfl) S.n_isinstance (by decide +kernel) (pa_cons (pv 0) (pa_cons (pe_bltn (v := .ty "tuple") (by rfl) S.n_tuple (by decide +kernel) rfl) pa_nil))))) (pw_or (pt_cmpR op_lt (pe_callB (call_len_seqC (K := K) rfl) (by rfl) S.n_len (by decide +kernel) (pa_cons (pv 0) pa_nil)) pe_int (nomark _)) (pw_or1 (pt_not (pt_val (pe_callB (call_isiC (K := K) rfl) (by rfl) S.n_isinstance (by decide +kernel) (pa_cons (pe_ix (ix_tupC (K := K) rfl) (pv 0) pe_int (fun _ _ => rfl)) (pa_cons (pe_bltn (v := .ty "str") (by rfl) S.n_str (by decide +kernel) rfl) pa_nil))))))))) (pss_one (ps_ret pe_bl)) pss_nil)
      (pss_cons (ps_if (pt_not (pt_val (C8.pe_c (c_is_between (K := K) S) hr (by decide) rfl (pa_cons (pe_ix (ix_tupC (K := K) rfl) (pv 0) (pe_un un_neg pe_int) (fun _ _ => rfl)) (pa_cons (pe_un un_neg (C8.pe_gc rfl (S.i_MOST_BOUND))) (pa_cons (C8.pe_gc rfl (S.i_MOST_BOUND)) pa_nil)))))) (pss_one (ps_ret pe_bl)) pss_nil)
      (pss_cons (ps_if (pt_not (pt_val (pe_callB (cr_allC (K := K) rfl rfl) (by rfl) S.n_all (by decide +kernel) (pa_cons (pe_lc (own := [("field", 2)]) (g := gName 2) (tt := tYes) rfl sc_is_rule.nd (pi_tupC (K := K) rfl (pe_slice (sl_tupAC (K := K) rfl) (pv 0) (po_some pe_int) (po_some (pe_un un_neg pe_int)))) (blkOk_by (N := N_is_rule) (sc := defScope s_is_rule) (by decide +kernel)) (fun _ _ _ _ _ => (pg_name (i := 2) sc_is_rule.nd rfl (Or.inl rfl))) (fun _ _ _ _ _ => pts_nil) (fun _ _ _ _ _ => (pe_and (pe_callB (call_isiC (K := K) rfl) (by rfl) S.n_isinstance (by decide +kernel) (pa_cons (pv 2) (pa_cons (pe_bltn (v := .ty "str") (by rfl) S.n_str (by decide +kernel) rfl) pa_nil))) (pe_one (pe_cmpR (op_in_seqC (K := K) rfl) (pv 2) (pv 1) rfl))))) pa_nil)))) (pss_one (ps_ret pe_bl)) pss_nil)
      (pss_cons (ps_if (pt_cmpR op_eq (pe_ix (ix_tupC (K := K) rfl) (pv 0) pe_int (fun _ _ => rfl)) pe_str (nomark _)) (pss_one (ps_ret (pe_and (pe_cmpR op_eq (pe_callB (call_len_seqC (K := K) rfl) (by rfl) S.n_len (by decide +kernel) (pa_cons (pv 0) pa_nil)) pe_int (nomark _)) (pe_one (pe_cmpR op_ne (pe_ix (ix_tupC (K := K) rfl) (pv 0) pe_int (fun _ _ => rfl)) (pe_ix (ix_tupC (K := K) rfl) (pv 0) pe_int (fun _ _ => rfl)) (nomark _)))))) pss_nil)
      (pss_one (ps_ret (pe_and (pe_cmpR (op_in_seqC (K := K) rfl) (pe_ix (ix_tupC (K := K) rfl) (pv 0) pe_int (fun _ _ => rfl)) (pe_tup (pa_cons pe_str (pa_cons pe_str pa_nil))) rfl) (pe_one (pe_cmpR op_eq (pe_callB (call_len_seqC (K := K) rfl) (by rfl) S.n_len (by decide +kernel) (pa_cons (pv 0) pa_nil)) pe_int (nomark _))))))))), ?_⟩
    have hd : Da (fun _ => True) H (.ref a) (.tuple (rd_ r)) := rv_da ha
    walk_at "go"
    refine if_f (decide_eq_false (by have := rv_len r; omega)) ?_
    walk_at "go"
    refine rd_ixT ha (rv_0 r) ?_
    walk_at "go"
    refine rd_ixT ha (rv_last r) ?_
    walk_at "go"
    refine ⟨fun _ => True, _, _, _, _, rfl, .int r.num, ?_⟩
    walk_at "go"
    refine if_f (by rw [btwD, decide_eq_true ok.num.1, decide_eq_true ok.num.2] <;> rfl) ?_
    walk_at "go"
    rw [rv_cut]
    intro p H' s1 e1
    walk_at "go"
    refine lcM walk_tup ((r.nm.map fun _ => true).map V.bl) (by simp) (by simp; cases r <;> exact Nat.le_of_ble_eq_true rfl) (fun H1 s => .inl (.inl (s _ _ e1))) (fun j x H1 H1' y hj s hY hy Qy Qn hQ => ?_) fun L H1 hL s e => ?_
    · obtain ⟨rfl, hx⟩ := hY
      obtain ⟨z, rfl, hz, hm⟩ := get_names hx
      rw [List.getElem?_map, List.getElem?_map, hz] at hy
      cases hy
      walk_at "go"
      rw [decide_eq_true (ok.nm z hm)]
      exact hQ _ (Same.refl _)
    · have e2 : (r.nm.map fun _ => true).all id = true := by cases r <;> rfl
      walk_at "go"
      rw [e2]
      refine if_f rfl ?_
      have ha2 := s _ _ (s1 _ _ ha)
      have s2 := s1.trans s
      walk_at "go"
      refine rd_ixT ha2 (rv_0 r) ?_
      cases r with
      | gap x y c =>
        walk_at "go"
        rw [decide_eq_false ok.2.2.1]
        exact q _ s2
      | most x c =>
        walk_at "go"
        refine ⟨szc rfl, fun p2 hp2 => ?_⟩
        refine rd_inN (N := ["most", "least"]) upd_same ?_
        refine ⟨_, rfl, if_t (by decide +kernel) ?_⟩
        walk_at "go"
        exact q _ (same_new2 s2 hp2)
      | least x c =>
        walk_at "go"
        refine ⟨szc rfl, fun p2 hp2 => ?_⟩
        refine rd_inN (N := ["most", "least"]) upd_same ?_
        refine ⟨_, rfl, if_t (by decide +kernel) ?_⟩
        walk_at "go"
        exact q _ (same_new2 s2 hp2)
abbrev N_wrong_field : List Str := ["value", "index", "name"]
theorem sc_wrong_field : FnScope N_wrong_field ["value"] (defScope s_wrong_field) := ⟨rfl, rfl, rfl, by decide +kernel, rfl, by decide +kernel, by decide +kernel⟩
def sp_wrong_field (K : Frag) : Sp := fun vs H Q _ => ∃ a, ∃ N : List Str, vs = [.ref a] ∧ SqT K H a (N.map V.str) ∧ N.length ≤ 5 ∧ N.Nodup ∧ (∀ z ∈ N, z ∈ menu) ∧ ∀ H', Same H H' → Q .non H'
theorem not_take {N : List Str} (nd : N.Nodup) {i : Nat} {z : Str} (h : N[i]? = some z) : z ∉ N.take i := fun hm => by
  obtain ⟨j, hj, e⟩ := List.mem_take_iff_getElem.mp hm
  obtain ⟨hi, e2⟩ := List.getElem?_eq_some_iff.mp h
  exact List.pairwise_iff_getElem.mp nd j i (by omega) hi (by omega) (e.trans e2.symm)
theorem c_wrong_field (S : Sys K mg) : C8.Cal P w K mg base 3 "wrong_field" (sp_wrong_field K) [] := by
  refine calD S.f_D_wrong_field S.g_wrong_field sc_wrong_field (fun _ _ _ _ _ _ us hl => match us, hl with | [_], _ => rfl) ?_ ?_
  · rintro vs H Q E ⟨_, _, rfl, _⟩
    rfl
  · rintro cdv A outer s H vs Q E hr ⟨a, N, rfl, ha, n5, nd, mn, q⟩
    refine ⟨_, pss_cons (ps_for PassesOwn.never rfl (pi_enumT (by rfl) S.n_enumerate (pa_cons (pv 0) pa_nil)) (pg_tupC (K := K) rfl rfl (pgs_cons (pg_name (i := 1) sc_wrong_field.nd rfl (Or.inl rfl)) (pgs_cons (pg_name (i := 2) sc_wrong_field.nd rfl (Or.inl rfl)) pgs_nil)))
        (pss_one (ps_if (PW.pt (pw_or (pt_cmpR op_eq (pv 1) (C8.pe_gc rfl (S.i_MOST_FIELDS)) (nomark _)) (pw_or (pt_not (pt_val (C8.pe_c (c_is_name (K := K) S) hr (by decide) rfl (pa_cons (pv 2) pa_nil)))) (pw_or1 (pt_cmpR (op_in_seqC (K := K) rfl) (pv 2) (pe_slice (sl_tupAC (K := K) rfl) (pv 0) po_none (po_some (pv 1))) rfl))))) (pss_one (ps_ret (pv 1))) pss_nil)))
      (pss_one (ps_ret pe_non)), ?_⟩
    walk_at "go"
    refine forW walk_enumT (fun _ σ H1 => ∃ x1 x2, σ = [some (.ref a), x1, x2] ∧ Same H H1) ⟨_, _, rfl, Same.refl H⟩ (fun _ _ _ _ ⟨_, _, _, s⟩ => sqt_same ha s) (fun i x σ H1 H1' hi ⟨x1, x2, eσ, s⟩ hY => ?_) fun σ H1 ⟨x1, x2, eσ, s⟩ => ?_
    · obtain ⟨T, y1, y2, rfl, hT, rfl, h1, h2⟩ := hY
      cases h1
      obtain ⟨z, rfl, hz, hm⟩ := get_names h2
      subst eσ
      have s1 : Same H (upd H1 T (.tup [.int (i : Nat), .str z])) := same_new2 s hT
      rw [List.length_map] at hi
      walk_at "go"
      refine if_f (decide_eq_false (by omega)) ?_
      walk_at "go"
      refine ⟨z, rfl, mn z hm, fun H2 s2 => ?_⟩
      walk_at "go"
      intro p H3 s3 e3
      rw [cut_to, ← List.map_take] at e3
      walk_at "go"
      refine if_f (decide_eq_false (not_take nd hz)) ?_
      walk_at "go"
      exact ⟨_, _, rfl, s1.trans (s2.trans s3)⟩
    · subst eσ
      walk_at "go"
      exact q _ s
abbrev N_wrong_rule : List Str := ["value", "fields", "index", "rule"]
theorem sc_wrong_rule : FnScope N_wrong_rule ["value", "fields"] (defScope s_wrong_rule) := ⟨rfl, rfl, rfl, by decide +kernel, rfl, by decide +kernel, by decide +kernel⟩
def sp_wrong_rule (K : Frag) : Sp := fun vs H Q _ => ∃ a pf, ∃ as : List Addr, ∃ N : List Str, ∃ R : List Rl, vs = [.ref a, .ref pf] ∧ H a = some (.tup (as.map V.ref)) ∧ SqT K H pf (N.map V.str) ∧ RlsAt H as R ∧ (∀ r ∈ R, RlOk N r) ∧ R.length ≤ 9 ∧ ∀ H', Same H H' → Q .non H'
theorem c_wrong_rule (S : Sys K mg) : C8.Cal P w K mg base 4 "wrong_rule" (sp_wrong_rule K) [] := by
  refine calD S.f_D_wrong_rule S.g_wrong_rule sc_wrong_rule (fun _ _ _ _ _ _ us hl => match us, hl with | [_, _], _ => rfl) ?_ ?_
  · rintro vs H Q E ⟨_, _, _, _, _, rfl, _⟩
    rfl
  · rintro cdv A outer s H vs Q E hr ⟨a, pf, as, N, R, rfl, ha, hf, ra, ok, r9, q⟩
    refine ⟨_, pss_cons (ps_for PassesOwn.never rfl (pi_enumT (by rfl) S.n_enumerate (pa_cons (pv 0) pa_nil)) (pg_tupC (K := K) rfl rfl (pgs_cons (pg_name (i := 2) sc_wrong_rule.nd rfl (Or.inl rfl)) (pgs_cons (pg_name (i := 3) sc_wrong_rule.nd rfl (Or.inl rfl)) pgs_nil)))
        (pss_one (ps_if (PW.pt (pw_or (pt_cmpR op_eq (pv 2) (C8.pe_gc rfl (S.i_MOST_RULES)) (nomark _)) (pw_or1 (pt_not (pt_val (C8.pe_c (c_is_rule (K := K) S) hr (by decide) rfl (pa_cons (pv 3) (pa_cons (pv 1) pa_nil)))))))) (pss_one (ps_ret (pv 2))) pss_nil)))
      (pss_one (ps_ret pe_non)), ?_⟩
    walk_at "go"
    refine forW walk_enumT (fun _ σ H1 => ∃ x1 x2, σ = [some (.ref a), some (.ref pf), x1, x2] ∧ Same H H1) ⟨_, _, rfl, Same.refl H⟩ (fun _ _ _ _ ⟨_, _, _, s⟩ => .inl (.inl (s _ _ ha))) (fun i x σ H1 H1' hi ⟨x1, x2, eσ, s⟩ hY => ?_) fun σ H1 ⟨x1, x2, eσ, s⟩ => ?_
    · obtain ⟨T, y1, y2, rfl, hT, rfl, h1, h2⟩ := hY
      cases h1
      obtain ⟨b, r, rfl, hb, hrr, hat⟩ := ra.get h2
      subst eσ
      have s1 : Same H (upd H1 T (.tup [.int (i : Nat), .ref b])) := same_new2 s hT
      rw [List.length_map, ra.1] at hi
      walk_at "go"
      refine if_f (decide_eq_false (by omega)) ?_
      walk_at "go"
      refine ⟨b, pf, N, r, rfl, s1 _ _ hat, sqt_same hf s1, ok r (List.mem_of_getElem? hrr), fun H2 s2 => ?_⟩
      walk_at "go"
      exact ⟨_, _, rfl, s1.trans s2⟩
    · subst eσ
      walk_at "go"
      exact q _ s
end
end K59
/-! K59P5 -/
set_option Elab.async false
set_option linter.all false
set_option maxRecDepth 100000
set_option maxHeartbeats 4000000
namespace K59
open PySem PySem.W PySem.Calls PySem.Spec PyProof.Rows L2
local macro_rules | `(tactic| walk_at "hp") => `(tactic| first
  | assumption
  | exact upd_same
  | (refine same_new (by assumption) _ _ ?_; walk_at "hp")
  | (refine (by assumption : Same _ _) _ _ ?_; walk_at "hp")
  | (refine FK.tk (by assumption) (by assumption) _ _ ?_; walk_at "hp"))
local macro_rules | `(tactic| walk_at "sq") => `(tactic| first
  | assumption
  | exact FrzT.sq (by assumption)
  | (refine sqt_new (by assumption) ?_; walk_at "sq")
  | (refine sqt_same ?_ (by assumption); walk_at "sq"))
local macro_rules | `(tactic| walk_at "fz") => `(tactic| first
  | assumption
  | (refine frz_new (by assumption) ?_; walk_at "fz")
  | (refine FrzT.same ?_ (by assumption); walk_at "fz"))
local macro_rules | `(tactic| walk_at "ic") => `(tactic| first
  | ((with_reducible show (0 : Int) < _); decide)
  | exact Or.inl ⟨by decide, by decide⟩
  | exact Or.inr ⟨by decide, by decide⟩
  | exact (show (0 : Int) < _ ∧ _ < (1073741824 : Int) from ⟨by decide, by decide⟩)
  | exact (show (0 : Int) ≤ _ ∧ _ ≤ (1000000 : Int) ∧ Int.natAbs _ < 2 ^ 64 from ⟨by decide, by decide, by decide⟩)
  | exact (⟨by decide, by decide, by decide⟩ : _ ∧ _ ∧ _))
local macro_rules | `(tactic| walk_at "st") => `(tactic| first
  | with_reducible refine rd_var rfl ?_
  | with_reducible refine rd_c ?_
  | with_reducible refine rd_cons ?_
  | with_reducible refine rd_nil ?_
  | with_reducible refine rd_op ?_
  | with_reducible refine rd_cb ?_
  | with_reducible refine rd_call ?_
  | with_reducible refine rd_test ?_
  | with_reducible refine rd_B ?_
  | with_reducible refine rd_bl ?_
  | with_reducible refine rd_un ?_
  | with_reducible refine rd_and ?_
  | with_reducible refine rd_or ?_
  | with_reducible refine rd_not ?_
  | with_reducible refine rd_andV ?_
  | with_reducible refine rd_orV ?_
  | with_reducible refine rd_notV ?_
  | with_reducible refine rd_if ?_
  | with_reducible refine rd_chain ?_
  | with_reducible refine rd_I0 ?_
  | with_reducible refine rd_U ?_
  | with_reducible refine rd_eqI ?_
  | with_reducible refine rd_neI ?_
  | with_reducible refine rd_eqS ?_
  | with_reducible refine rd_neS ?_
  | with_reducible refine rd_nn ?_
  | with_reducible refine rd_asg ?_
  | with_reducible refine rd_gname ?_
  | with_reducible refine rd_seq ?_
  | with_reducible refine rd_ifS ?_
  | with_reducible refine rd_ret ?_
  | with_reducible refine rd_next ?_
  | with_reducible refine rd_cont ?_
  | with_reducible refine rd_drop ?_
  | with_reducible refine rd_par ?_
  | with_reducible refine rd_vs2 ?_
  | with_reducible refine rd_gsub ?_
  | with_reducible refine rd_gcons ?_
  | with_reducible refine rd_gnil ?_
  | with_reducible refine rd_tup ?_
  | with_reducible refine rd_lst ?_
  | with_reducible refine rd_sl ?_
  | with_reducible refine rd_part ?_
  | with_reducible refine rd_nopart ?_
  | with_reducible refine rd_i1 ?_
  | with_reducible refine rd_bm ?_
  | with_reducible refine rd_yes ?_
  | with_reducible refine rd_lcT ?_
  | with_reducible refine rd_lcL ?_
  | with_reducible refine rd_lcR1 ?_
  | with_reducible refine rd_lcS ?_
  | with_reducible refine rd_forT ?_
  | with_reducible refine rd_forL ?_
  | with_reducible refine rd_forR1 ?_
  | with_reducible refine rd_atS ?_
  | with_reducible refine rd_forEn ?_
  | with_reducible refine rd_dget ?_
  | with_reducible refine rd_din ?_
  | with_reducible refine rd_dget2 ?_
  | with_reducible refine rd_dput ?_
  | with_reducible refine rd_disp ?_
  | with_reducible refine rd_pcons ?_
  | with_reducible refine rd_pnil ?_
  | with_reducible refine rd_dcL ?_
  | with_reducible refine rd_lcEn ?_
  | with_reducible refine rd_yS ?_
  | with_reducible refine rd_m1 ?_
  | with_reducible refine rd_meth ?_
  | with_reducible refine rd_fld ?_
  | with_reducible refine rd_sfld ?_
  | with_reducible refine rd_make ?_
  | with_reducible refine rd_fmt ?_
  | with_reducible refine rd_js ?_
  | with_reducible refine rd_js0 ?_
  | with_reducible refine iteT ?_
  | with_reducible refine iteF ?_
  | ((with_reducible refine isi_int (d := ?d1) (N := ?n1) ?h1 ?_); (case h1 => assumption))
  | ((with_reducible refine isi_bool (d := ?d1) (N := ?n1) ?h1 ?_); (case h1 => assumption))
  | ((with_reducible refine isi_str (d := ?d1) (N := ?n1) ?h1 ?_); (case h1 => assumption))
  | ((with_reducible refine isi_tuple (d := ?d1) (N := ?n1) ?h1 ?_); (case h1 => assumption))
  | with_reducible refine isi_str (N := fun _ => True) (Da.str _) ?_
  | with_reducible refine isi_int (N := fun _ => True) (Da.int _) ?_
  | with_reducible refine isi_bool (N := fun _ => True) (Da.int _) ?_
  | with_reducible refine isi_str (N := fun _ => True) (Da.int _) ?_
  | ((with_reducible show (wipe _ _ = wipe _ _) ∧ _); refine ⟨rfl, ?_⟩)
  | ((with_reducible show Ends.nx _ _ _); dsimp only)
  | ((with_reducible show Ends.rt _ _ _); dsimp only)
  | ((with_reducible show Ends.ct _ _ _); dsimp only)
  | ((with_reducible refine rd_ixT (xs := ?x1) (v := ?v1) ?h1 ?e1 ?_); (case h1 => walk_at "hp"); (case e1 => rfl))
  | ((with_reducible refine rd_ixL (xs := ?x1) (v := ?v1) ?h1 ?e1 ?_); (case h1 => walk_at "hp"); (case e1 => rfl))
  | ((with_reducible refine rd_lenT (xs := ?x1) ?h1 ?_); (case h1 => walk_at "hp"))
  | ((with_reducible refine rd_lenL (xs := ?x1) ?h1 ?_); (case h1 => walk_at "hp"))
  | ((with_reducible refine rd_tupOf (xs := ?x1) ?h1 ?_); (case h1 => walk_at "hp"))
  | ((with_reducible refine rd_all (bs := ?x1) ?h1 ?_); (case h1 => walk_at "hp"))
  | ((with_reducible refine rd_atT (xs := ?x1) ?h1 ?_); (case h1 => walk_at "hp"))
  | ((with_reducible refine rd_atL (xs := ?x1) ?h1 ?_); (case h1 => walk_at "hp"))
  | ((with_reducible refine rd_gtup (xs := ?x1) ?h1 ?e1 ?_); (case h1 => walk_at "hp"); (case e1 => rfl))
  | ((with_reducible refine rd_atEn (xs := ?x1) ?h1 ?_); (case h1 => walk_at "hp"))
  | ((with_reducible refine rd_slT (xs := ?x1) ?h1 ?_); (case h1 => walk_at "hp"))
  | ((with_reducible refine rd_slL (xs := ?x1) ?h1 ?_); (case h1 => walk_at "hp"))
  | ((with_reducible refine rd_inN (N := ?x1) ?h1 ?_); (case h1 => walk_at "hp"))
  | ((with_reducible refine rd_inL (N := ?x1) ?h1 ?_); (case h1 => walk_at "hp"))
  | ((with_reducible refine rd_notInN (N := ?x1) ?h1 ?_); (case h1 => walk_at "hp"))
  | ((with_reducible refine rd_notInL (N := ?x1) ?h1 ?_); (case h1 => walk_at "hp"))
  | with_reducible refine rd_tm ?_
  | ((with_reducible refine rd_isF (xs := ?x1) ?h1 ?_); (case h1 => walk_at "fz"))
  | ((with_reducible refine rd_lenTq (xs := ?x1) ?h1 ?_); (case h1 => walk_at "sq"))
  | ((with_reducible refine rd_atTq (xs := ?x1) ?h1 ?_); (case h1 => walk_at "sq"))
  | ((with_reducible refine rd_atEnq (xs := ?x1) ?h1 ?_); (case h1 => walk_at "sq"))
  | ((with_reducible refine rd_slTq (xs := ?x1) ?h1 ?_); (case h1 => walk_at "sq"))
  | ((with_reducible refine rd_inNq (N := ?x1) ?h1 ?_); (case h1 => walk_at "sq"))
  | ((with_reducible refine rd_setL (xs := ?x1) (j := ?j1) ?h1 ?e1 ?_); (case h1 => walk_at "hp"); (case e1 => rfl))
  | with_reducible refine rd_int1 ?_
  | with_reducible refine rd_x1 ?_
  | with_reducible refine rd_x2 ?_
  | ((with_reducible refine rd_tyL (xs := ?x1) ?h1 ?_); (case h1 => walk_at "hp"))
  | ((with_reducible refine rd_ixsL (xs := ?x1) (v := ?v1) ?h1 ?e1 ?_); (case h1 => walk_at "hp"); (case e1 => rfl))
  | ((with_reducible refine rd_ixsT (xs := ?x1) (v := ?v1) ?h1 ?e1 ?_); (case h1 => walk_at "hp"); (case e1 => rfl))
  | ((with_reducible refine rd_I ?c1 ?_); (case c1 => walk_at "ic"))
  | ((with_reducible refine if_t ?hb1 ?_); (case hb1 => rfl))
  | ((with_reducible refine if_f ?hb1 ?_); (case hb1 => rfl)))
local macro_rules | `(tactic| walk_at "go") => `(tactic| repeat (first | walk_at "st" | dsimp only))
section
variable {P : Program} {w : World} {K : Frag} {mg : Str → Option Value} {base : Heap}

/-! lengths, sums; data for == -/
theorem slen_app (a b : Str) : (a ++ b).length = a.length + b.length := by
  rw [TL.len_tl, TL.tl_append, List.length_append, ← TL.len_tl, ← TL.len_tl]
theorem slen_empty : Str.empty.length = 0 := rfl
theorem sum_len {m : Nat} : ∀ {ys : List Str}, (∀ y ∈ ys, y.length ≤ m) → (ys.map (·.length)).sum ≤ ys.length * m
  | [], _ => Nat.zero_le _
  | y :: ys, h => by
    have h1 := h y List.mem_cons_self
    have h2 := sum_len (ys := ys) fun z hz => h z (List.mem_cons_of_mem _ hz)
    rw [List.map_cons, List.sum_cons, List.length_cons, Nat.succ_mul]
    omega
theorem strs_lay : ∀ {N : List Str}, (∀ z ∈ N, PyData.strOk z = true) → PyData.canLayAll0 (N.map PyData.str) = true ∧ PyData.depthAll (N.map PyData.str) = 0
  | [], _ => ⟨rfl, rfl⟩
  | z :: N, h => by
    obtain ⟨a, b⟩ := strs_lay (N := N) fun y hy => h y (List.mem_cons_of_mem _ hy)
    refine ⟨?_, ?_⟩
    · show (PyData.strOk z && PyData.canLayAll0 (N.map PyData.str)) = true
      rw [h z List.mem_cons_self, a] <;> rfl
    · show max 0 (PyData.depthAll (N.map PyData.str)) = 0
      rw [b] <;> rfl
theorem ints_lay : ∀ {ns : List Int}, PyData.canLayAll0 (ns.map PyData.int) = true ∧ PyData.depthAll (ns.map PyData.int) = 0
  | [] => ⟨rfl, rfl⟩
  | n :: ns => by
    obtain ⟨a, b⟩ := ints_lay (ns := ns)
    refine ⟨?_, ?_⟩
    · show (true && PyData.canLayAll0 (ns.map PyData.int)) = true
      rw [a] <;> rfl
    · show max 0 (PyData.depthAll (ns.map PyData.int)) = 0
      rw [b] <;> rfl
theorem shaped_tup {ds : List PyData} (a : PyData.canLayAll0 ds = true) (b : PyData.depthAll ds ≤ 63) : SeqAt.shaped (.tuple ds) = true := by
  have e : SeqAt.shaped (.tuple ds) = (PyData.canLayAll0 ds && decide (PyData.depthAll ds + 1 ≤ 64)) := rfl
  rw [e, a, decide_eq_true (by omega)] <;> rfl
theorem shaped_lst {ds : List PyData} (a : PyData.canLayAll0 ds = true) (b : PyData.depthAll ds ≤ 63) : SeqAt.shaped (.list ds) = true := by
  have e : SeqAt.shaped (.list ds) = (PyData.canLayAll0 ds && decide (PyData.depthAll ds + 1 ≤ 64)) := rfl
  rw [e, a, decide_eq_true (by omega)] <;> rfl
theorem shaped_tints {ns : List Int} : SeqAt.shaped (.tuple (ns.map PyData.int)) = true := shaped_tup ints_lay.1 (by rw [ints_lay.2]; exact Nat.zero_le _)
theorem shaped_lints {ns : List Int} : SeqAt.shaped (.list (ns.map PyData.int)) = true := shaped_lst ints_lay.1 (by rw [ints_lay.2]; exact Nat.zero_le _)
theorem shaped_tstrs {N : List Str} (h : ∀ z ∈ N, PyData.strOk z = true) : SeqAt.shaped (.tuple (N.map PyData.str)) = true := shaped_tup (strs_lay h).1 (by rw [(strs_lay h).2]; exact Nat.zero_le _)
theorem shaped_lstrs {N : List Str} (h : ∀ z ∈ N, PyData.strOk z = true) : SeqAt.shaped (.list (N.map PyData.str)) = true := shaped_lst (strs_lay h).1 (by rw [(strs_lay h).2]; exact Nat.zero_le _)
theorem menu_ok : ∀ z ∈ menu, PyData.strOk z = true := by decide +kernel
theorem dp_tup {H : Hp} {a : Addr} {xs : List V} {ds : List PyData} (h : H a = some (.tup xs)) (d : DaAll (fun _ => True) H xs ds) : Dp K H (.ref a) (.tuple ds) := (Da.tup h d).dp
theorem dp_lst {H : Hp} {a : Addr} {xs : List V} {ds : List PyData} (h : H a = some (.lst xs)) (d : DaAll (fun _ => True) H xs ds) : Dp K H (.ref a) (.list ds) := (Da.lst h trivial d).dp
abbrev N_rule_text : List Str := ["rule"]
theorem sc_rule_text : FnScope N_rule_text ["rule"] (defScope s_rule_text) := ⟨rfl, rfl, rfl, by decide +kernel, rfl, by decide +kernel, by decide +kernel⟩
def sp_rule_text : Sp := fun vs H Q _ => ∃ a, ∃ N : List Str, ∃ r, vs = [.ref a] ∧ H a = some (.tup (rv r)) ∧ RlOk N r ∧ (∀ z ∈ N, z ∈ menu) ∧ Q (.str (rowS r)) H
theorem c_rule_text (S : Sys K mg) : C8.Cal P w K mg base 1 "rule_text" sp_rule_text [] := by
  refine calD S.f_D_rule_text S.g_rule_text sc_rule_text (fun _ _ _ _ _ _ us hl => match us, hl with | [_], _ => rfl) ?_ ?_
  · rintro vs H Q E ⟨_, _, _, rfl, _⟩
    rfl
  · rintro cdv A outer s H vs Q E hr ⟨a, N, r, rfl, ha, ok, mn, q⟩
    refine ⟨_, pss_cons (ps_if (pt_cmpR op_eq (pe_ix (ix_tupC (K := K) rfl) (pv 0) pe_int (fun _ _ => rfl)) pe_str (nomark _)) (pss_one (ps_ret (pe_joined (PJ.cons (pe_fmt (pe_ix (ix_tupC (K := K) rfl) (pv 0) pe_int (fun _ _ => rfl))) (PJ.cons pe_str (PJ.cons (pe_fmt (pe_ix (ix_tupC (K := K) rfl) (pv 0) pe_int (fun _ _ => rfl))) (PJ.cons pe_str (PJ.cons (pe_fmt (pe_ix (ix_tupC (K := K) rfl) (pv 0) pe_int (fun _ _ => rfl))) PJ.nil)))))))) pss_nil)
      (pss_one (ps_ret (pe_ifExp (pt_cmpR op_eq (pe_ix (ix_tupC (K := K) rfl) (pv 0) pe_int (fun _ _ => rfl)) pe_str (nomark _)) (pe_joined (PJ.cons (pe_fmt (pe_ix (ix_tupC (K := K) rfl) (pv 0) pe_int (fun _ _ => rfl))) (PJ.cons pe_str (PJ.cons (pe_fmt (pe_ix (ix_tupC (K := K) rfl) (pv 0) pe_int (fun _ _ => rfl))) PJ.nil)))) (pe_joined (PJ.cons (pe_fmt (pe_ix (ix_tupC (K := K) rfl) (pv 0) pe_int (fun _ _ => rfl))) (PJ.cons pe_str (PJ.cons (pe_fmt (pe_ix (ix_tupC (K := K) rfl) (pv 0) pe_int (fun _ _ => rfl))) PJ.nil))))))), ?_⟩
    have l1 : (" - " : Str).length = 3 := by decide +kernel
    have l2 : (" <= " : Str).length = 4 := by decide +kernel
    have l3 : (" >= " : Str).length = 4 := by decide +kernel
    have sz9 : ∀ {n : Nat}, n ≤ 100 → n ≤ sizeLine := fun h => sz (by omega)
    cases r with
    | gap x y c =>
      have h1 := menu_len x (mn x ok.1)
      have h2 := menu_len y (mn y ok.2.1)
      have h3 := numS_len ok.2.2.2.1 ok.2.2.2.2
      rw [← row_gapF] at q
      walk_at "go"
      refine .inl ⟨_, rfl, sz9 (by omega), ?_⟩
      refine ⟨_, rfl, sz9 (by simp only [slen_app, slen_empty]; omega), ?_⟩
      walk_at "go"
      refine ⟨sz9 (by simp only [slen_app, slen_empty]; omega), ?_⟩
      walk_at "go"
      refine .inl ⟨_, rfl, sz9 (by omega), ?_⟩
      refine ⟨_, rfl, sz9 (by simp only [slen_app, slen_empty]; omega), ?_⟩
      walk_at "go"
      refine ⟨sz9 (by simp only [slen_app, slen_empty]; omega), ?_⟩
      walk_at "go"
      refine .inr ⟨_, rfl, log_small (by have := ok.2.2.2; omega), ?_⟩
      refine ⟨_, rfl, sz9 (by simp only [slen_app, slen_empty]; show _ + (numS c).length ≤ 100; omega), ?_⟩
      walk_at "go"
      exact q
    | most x c =>
      have h1 := menu_len x (mn x ok.1)
      have h3 := numS_len ok.2.1 ok.2.2
      rw [← row_mostF] at q
      walk_at "go"
      refine .inl ⟨_, rfl, sz9 (by omega), ?_⟩
      refine ⟨_, rfl, sz9 (by simp only [slen_app, slen_empty]; omega), ?_⟩
      walk_at "go"
      refine ⟨sz9 (by simp only [slen_app, slen_empty]; omega), ?_⟩
      walk_at "go"
      refine .inr ⟨_, rfl, log_small (by have := ok.2; omega), ?_⟩
      refine ⟨_, rfl, sz9 (by simp only [slen_app, slen_empty]; show _ + (numS c).length ≤ 100; omega), ?_⟩
      walk_at "go"
      exact q
    | least x c =>
      have h1 := menu_len x (mn x ok.1)
      have h3 := numS_len ok.2.1 ok.2.2
      rw [← row_leastF] at q
      walk_at "go"
      refine .inl ⟨_, rfl, sz9 (by omega), ?_⟩
      refine ⟨_, rfl, sz9 (by simp only [slen_app, slen_empty]; omega), ?_⟩
      walk_at "go"
      refine ⟨sz9 (by simp only [slen_app, slen_empty]; omega), ?_⟩
      walk_at "go"
      refine .inr ⟨_, rfl, log_small (by have := ok.2; omega), ?_⟩
      refine ⟨_, rfl, sz9 (by simp only [slen_app, slen_empty]; show _ + (numS c).length ≤ 100; omega), ?_⟩
      walk_at "go"
      exact q
abbrev N_form_text : List Str := ["fields", "rules", "rule"]
theorem sc_form_text : FnScope N_form_text ["fields", "rules"] (defScope s_form_text) := ⟨rfl, rfl, rfl, by decide +kernel, rfl, by decide +kernel, by decide +kernel⟩
def sp_form_text (K : Frag) : Sp := fun vs H Q _ => ∃ pf pr, ∃ as : List Addr, ∃ N : List Str, ∃ R : List Rl, vs = [.ref pf, .ref pr] ∧ SqT K H pf (N.map V.str) ∧ H pr = some (.tup (as.map V.ref)) ∧ RlsAt H as R ∧ FormOk N R ∧ ∀ H', Same H H' → Q (.str (pageS N R)) H'
theorem c_form_text (S : Sys K mg) : C8.Cal P w K mg base 2 "form_text" (sp_form_text K) [] := by
  refine calD S.f_D_form_text S.g_form_text sc_form_text (fun _ _ _ _ _ _ us hl => match us, hl with | [_, _], _ => rfl) ?_ ?_
  · rintro vs H Q E ⟨_, _, _, _, _, rfl, _⟩
    rfl
  · rintro cdv A outer s H vs Q E hr ⟨pf, pr, as, N, R, rfl, hf, hp, ra, ok, q⟩
    refine ⟨_, pss_one (ps_ret (pe_join pe_str (pe_op op_cat (pe_lst (pa_cons (pe_op op_add_str pe_str (pe_join pe_str (pv 0))) pa_nil)) (pe_lc (own := [("rule", 2)]) (g := gName 2) (tt := tYes) rfl sc_form_text.nd (pi_tupC (K := K) rfl (pv 1)) (blkOk_by (N := N_form_text) (sc := defScope s_form_text) (by decide +kernel)) (fun _ _ _ _ _ => (pg_name (i := 2) sc_form_text.nd rfl (Or.inl rfl))) (fun _ _ _ _ _ => pts_nil) (fun _ _ _ _ _ => (C8.pe_c (c_rule_text (K := K) S) hr (by decide) rfl (pa_cons (pv 2) pa_nil))))))), ?_⟩
    have l7 := fields_len
    have l50 := names_len ok
    have n5 := ok.n5
    have r9 := ok.r9
    have lc : (", " : Str).length = 2 := by decide +kernel
    have ln : ("\n" : Str).length = 1 := by decide +kernel
    have s8 := sum_len (m := 8) (ys := N) fun y hy => menu_len y (ok.mn y hy)
    walk_at "go"
    refine ⟨", ", pf, N, rfl, rfl, .inr hf, by rw [lc]; omega, ?_⟩
    refine ⟨_, _, rfl, rfl, sz (by omega), ?_⟩
    walk_at "go"
    refine ⟨szc rfl, fun p hp0 => ?_⟩
    have hp1 := same_new (o := .lst [.str (headS N)]) hp0 _ _ hp
    have ra1 := ra.tk (Same.tk (same_new (o := .lst [.str (headS N)]) hp0))
    walk_at "go"
    refine lcM walk_tup (R.map fun r => .str (rowS r)) (by rw [List.length_map, List.length_map, ra.1]) (by rw [List.length_map, ra.1]; omega) (fun H1 s => .inl (.inl (s _ _ hp1))) (fun j x H1 H1' y hj s hY hy Qy Qn hQ => ?_) fun L H1 hL s e => ?_
    · obtain ⟨rfl, hx⟩ := hY
      obtain ⟨b, r, rfl, hb, hrr, hat⟩ := (ra1.tk (Same.tk s)).get hx
      rw [List.getElem?_map, hrr] at hy
      cases hy
      walk_at "go"
      exact ⟨b, N, r, rfl, hat, ok.rl r (List.mem_of_getElem? hrr), ok.mn, hQ _ (Same.refl _)⟩
    · refine rd_catL (s _ _ upd_same) e (sz (by rw [List.length_map]; simp; omega)) fun p2 hp2 => ?_
      walk_at "go"
      have l57 := head_len ok
      have s57 := sum_len (m := 57) (ys := headS N :: R.map rowS) fun y hy => by
        rcases List.mem_cons.mp hy with rfl | hy
        · exact l57
        · obtain ⟨r, hr', rfl⟩ := List.mem_map.mp hy
          exact Nat.le_trans (row_len ok.mn (ok.rl r hr')) (by decide)
      refine ⟨"\n", p2, headS N :: R.map rowS, rfl, rfl, .inl (.inl (.inl (by rw [upd_same]; show _ = some (HO.lst (_ :: List.map V.str (List.map rowS R))); rw [List.map_map] <;> rfl))), by rw [ln]; rw [List.length_cons, List.length_map] at *; omega, ?_⟩
      exact q _ (same_new2 (Same.trans (same_new hp0) s) hp2)
abbrev N_rule_in : List Str := ["text", "words"]
theorem sc_rule_in : FnScope N_rule_in ["text"] (defScope s_rule_in) := ⟨rfl, rfl, rfl, by decide +kernel, rfl, by decide +kernel, by decide +kernel⟩
def sp_rule_in : Sp := fun vs H Q _ => ∃ N : List Str, ∃ r, vs = [.str (rowS r)] ∧ RlOk N r ∧ (∀ z ∈ N, z ∈ menu) ∧ ∀ H' p, Same H H' → H' p = some (.tup (rv r)) → Q (.ref p) H'
theorem c_rule_in (S : Sys K mg) : C8.Cal P w K mg base 2 "rule_in" sp_rule_in [] := by
  refine calD S.f_D_rule_in S.g_rule_in sc_rule_in (fun _ _ _ _ _ _ us hl => match us, hl with | [_], _ => rfl) ?_ ?_
  · rintro vs H Q E ⟨_, _, rfl, _⟩
    rfl
  · rintro cdv A outer s H vs Q E hr ⟨N, r, rfl, ok, mn, q⟩
    refine ⟨_, pss_cons (ps_set (i := 1) sc_rule_in.nd rfl (Or.inl rfl) (pe_split (pv 0) pe_str))
      (pss_cons (ps_if (pt_cmpR op_eq (pe_callB (call_len_seqC (K := K) rfl) (by rfl) S.n_len (by decide +kernel) (pa_cons (pv 1) pa_nil)) pe_int (nomark _)) (pss_one (ps_ret (pe_tup (pa_cons pe_str (pa_cons (pe_ix (ix_listC (K := K) rfl) (pv 1) pe_int (fun _ _ => rfl)) (pa_cons (pe_ix (ix_listC (K := K) rfl) (pv 1) pe_int (fun _ _ => rfl)) (pa_cons (C8.pe_c (c_integer_in (K := K) S) hr (by decide) rfl (pa_cons (pe_ix (ix_listC (K := K) rfl) (pv 1) pe_int (fun _ _ => rfl)) pa_nil)) pa_nil))))))) pss_nil)
      (pss_cons (ps_if (pt_cmpR op_ne (pe_callB (call_len_seqC (K := K) rfl) (by rfl) S.n_len (by decide +kernel) (pa_cons (pv 1) pa_nil)) pe_int (nomark _)) (pss_one (ps_ret pe_non)) pss_nil)
      (pss_one (ps_ret (pe_tup (pa_cons (pe_ifExp (pt_cmpR op_eq (pe_ix (ix_listC (K := K) rfl) (pv 1) pe_int (fun _ _ => rfl)) pe_str (nomark _)) pe_str pe_str) (pa_cons (pe_ix (ix_listC (K := K) rfl) (pv 1) pe_int (fun _ _ => rfl)) (pa_cons (C8.pe_c (c_integer_in (K := K) S) hr (by decide) rfl (pa_cons (pe_ix (ix_listC (K := K) rfl) (pv 1) pe_int (fun _ _ => rfl)) pa_nil)) pa_nil)))))))), ?_⟩
    have l45 := row_len mn ok
    walk_at "go"
    refine ⟨_, _, rfl, rfl, by decide +kernel, sz (by omega), ?_⟩
    rw [row_split mn ok]
    intro p hp
    cases r with
    | gap x y c =>
      walk_at "go"
      refine ⟨c, rfl, ok.2.2.2.1, ok.2.2.2.2, fun H' s' => ?_⟩
      walk_at "go"
      exact ⟨szc rfl, fun p2 hp2 => q _ _ (same_new2 (Same.trans (same_new hp) s') hp2) upd_same⟩
    | most x c =>
      walk_at "go"
      refine ⟨c, rfl, ok.2.1, ok.2.2, fun H' s' => ?_⟩
      walk_at "go"
      exact ⟨szc rfl, fun p2 hp2 => q _ _ (same_new2 (Same.trans (same_new hp) s') hp2) upd_same⟩
    | least x c =>
      walk_at "go"
      refine ⟨c, rfl, ok.2.1, ok.2.2, fun H' s' => ?_⟩
      walk_at "go"
      exact ⟨szc rfl, fun p2 hp2 => q _ _ (same_new2 (Same.trans (same_new hp) s') hp2) upd_same⟩
end
end K59
/-! K59P6 -/
set_option Elab.async false
set_option linter.all false
set_option maxRecDepth 100000
set_option maxHeartbeats 4000000
namespace K59
open PySem PySem.W PySem.Calls PySem.Spec PyProof.Rows L2
local macro_rules | `(tactic| walk_at "hp") => `(tactic| first
  | assumption
  | exact upd_same
  | (refine same_new (by assumption) _ _ ?_; walk_at "hp")
  | (refine (by assumption : Same _ _) _ _ ?_; walk_at "hp")
  | (refine FK.tk (by assumption) (by assumption) _ _ ?_; walk_at "hp"))
local macro_rules | `(tactic| walk_at "sq") => `(tactic| first
  | assumption
  | exact FrzT.sq (by assumption)
  | (refine sqt_new (by assumption) ?_; walk_at "sq")
  | (refine sqt_same ?_ (by assumption); walk_at "sq"))
local macro_rules | `(tactic| walk_at "fz") => `(tactic| first
  | assumption
  | (refine frz_new (by assumption) ?_; walk_at "fz")
  | (refine FrzT.same ?_ (by assumption); walk_at "fz"))
local macro_rules | `(tactic| walk_at "ic") => `(tactic| first
  | ((with_reducible show (0 : Int) < _); decide)
  | exact Or.inl ⟨by decide, by decide⟩
  | exact Or.inr ⟨by decide, by decide⟩
  | exact (show (0 : Int) < _ ∧ _ < (1073741824 : Int) from ⟨by decide, by decide⟩)
  | exact (show (0 : Int) ≤ _ ∧ _ ≤ (1000000 : Int) ∧ Int.natAbs _ < 2 ^ 64 from ⟨by decide, by decide, by decide⟩)
  | exact (⟨by decide, by decide, by decide⟩ : _ ∧ _ ∧ _))
local macro_rules | `(tactic| walk_at "st") => `(tactic| first
  | with_reducible refine rd_var rfl ?_
  | with_reducible refine rd_c ?_
  | with_reducible refine rd_cons ?_
  | with_reducible refine rd_nil ?_
  | with_reducible refine rd_op ?_
  | with_reducible refine rd_cb ?_
  | with_reducible refine rd_call ?_
  | with_reducible refine rd_test ?_
  | with_reducible refine rd_B ?_
  | with_reducible refine rd_bl ?_
  | with_reducible refine rd_un ?_
  | with_reducible refine rd_and ?_
  | with_reducible refine rd_or ?_
  | with_reducible refine rd_not ?_
  | with_reducible refine rd_andV ?_
  | with_reducible refine rd_orV ?_
  | with_reducible refine rd_notV ?_
  | with_reducible refine rd_if ?_
  | with_reducible refine rd_chain ?_
  | with_reducible refine rd_I0 ?_
  | with_reducible refine rd_U ?_
  | with_reducible refine rd_eqI ?_
  | with_reducible refine rd_neI ?_
  | with_reducible refine rd_eqS ?_
  | with_reducible refine rd_neS ?_
  | with_reducible refine rd_nn ?_
  | with_reducible refine rd_asg ?_
  | with_reducible refine rd_gname ?_
  | with_reducible refine rd_seq ?_
  | with_reducible refine rd_ifS ?_
  | with_reducible refine rd_ret ?_
  | with_reducible refine rd_next ?_
  | with_reducible refine rd_cont ?_
  | with_reducible refine rd_drop ?_
  | with_reducible refine rd_par ?_
  | with_reducible refine rd_vs2 ?_
  | with_reducible refine rd_gsub ?_
  | with_reducible refine rd_gcons ?_
  | with_reducible refine rd_gnil ?_
  | with_reducible refine rd_tup ?_
  | with_reducible refine rd_lst ?_
  | with_reducible refine rd_sl ?_
  | with_reducible refine rd_part ?_
  | with_reducible refine rd_nopart ?_
  | with_reducible refine rd_i1 ?_
  | with_reducible refine rd_bm ?_
  | with_reducible refine rd_yes ?_
  | with_reducible refine rd_lcT ?_
  | with_reducible refine rd_lcL ?_
  | with_reducible refine rd_lcR1 ?_
  | with_reducible refine rd_lcS ?_
  | with_reducible refine rd_forT ?_
  | with_reducible refine rd_forL ?_
  | with_reducible refine rd_forR1 ?_
  | with_reducible refine rd_atS ?_
  | with_reducible refine rd_forEn ?_
  | with_reducible refine rd_dget ?_
  | with_reducible refine rd_din ?_
  | with_reducible refine rd_dget2 ?_
  | with_reducible refine rd_dput ?_
  | with_reducible refine rd_disp ?_
  | with_reducible refine rd_pcons ?_
  | with_reducible refine rd_pnil ?_
  | with_reducible refine rd_dcL ?_
  | with_reducible refine rd_lcEn ?_
  | with_reducible refine rd_yS ?_
  | with_reducible refine rd_m1 ?_
  | with_reducible refine rd_meth ?_
  | with_reducible refine rd_fld ?_
  | with_reducible refine rd_sfld ?_
  | with_reducible refine rd_make ?_
  | with_reducible refine rd_fmt ?_
  | with_reducible refine rd_js ?_
  | with_reducible refine rd_js0 ?_
  | with_reducible refine iteT ?_
  | with_reducible refine iteF ?_
  | ((with_reducible refine isi_int (d := ?d1) (N := ?n1) ?h1 ?_); (case h1 => assumption))
  | ((with_reducible refine isi_bool (d := ?d1) (N := ?n1) ?h1 ?_); (case h1 => assumption))
  | ((with_reducible refine isi_str (d := ?d1) (N := ?n1) ?h1 ?_); (case h1 => assumption))
  | ((with_reducible refine isi_tuple (d := ?d1) (N := ?n1) ?h1 ?_); (case h1 => assumption))
  | with_reducible refine isi_str (N := fun _ => True) (Da.str _) ?_
  | with_reducible refine isi_int (N := fun _ => True) (Da.int _) ?_
  | with_reducible refine isi_bool (N := fun _ => True) (Da.int _) ?_
  | with_reducible refine isi_str (N := fun _ => True) (Da.int _) ?_
  | ((with_reducible show (wipe _ _ = wipe _ _) ∧ _); refine ⟨rfl, ?_⟩)
  | ((with_reducible show Ends.nx _ _ _); dsimp only)
  | ((with_reducible show Ends.rt _ _ _); dsimp only)
  | ((with_reducible show Ends.ct _ _ _); dsimp only)
  | ((with_reducible refine rd_ixT (xs := ?x1) (v := ?v1) ?h1 ?e1 ?_); (case h1 => walk_at "hp"); (case e1 => rfl))
  | ((with_reducible refine rd_ixL (xs := ?x1) (v := ?v1) ?h1 ?e1 ?_); (case h1 => walk_at "hp"); (case e1 => rfl))
  | ((with_reducible refine rd_lenT (xs := ?x1) ?h1 ?_); (case h1 => walk_at "hp"))
  | ((with_reducible refine rd_lenL (xs := ?x1) ?h1 ?_); (case h1 => walk_at "hp"))
  | ((with_reducible refine rd_tupOf (xs := ?x1) ?h1 ?_); (case h1 => walk_at "hp"))
  | ((with_reducible refine rd_all (bs := ?x1) ?h1 ?_); (case h1 => walk_at "hp"))
  | ((with_reducible refine rd_atT (xs := ?x1) ?h1 ?_); (case h1 => walk_at "hp"))
  | ((with_reducible refine rd_atL (xs := ?x1) ?h1 ?_); (case h1 => walk_at "hp"))
  | ((with_reducible refine rd_gtup (xs := ?x1) ?h1 ?e1 ?_); (case h1 => walk_at "hp"); (case e1 => rfl))
  | ((with_reducible refine rd_atEn (xs := ?x1) ?h1 ?_); (case h1 => walk_at "hp"))
  | ((with_reducible refine rd_slT (xs := ?x1) ?h1 ?_); (case h1 => walk_at "hp"))
  | ((with_reducible refine rd_slL (xs := ?x1) ?h1 ?_); (case h1 => walk_at "hp"))
  | ((with_reducible refine rd_inN (N := ?x1) ?h1 ?_); (case h1 => walk_at "hp"))
  | ((with_reducible refine rd_inL (N := ?x1) ?h1 ?_); (case h1 => walk_at "hp"))
  | ((with_reducible refine rd_notInN (N := ?x1) ?h1 ?_); (case h1 => walk_at "hp"))
  | ((with_reducible refine rd_notInL (N := ?x1) ?h1 ?_); (case h1 => walk_at "hp"))
  | with_reducible refine rd_tm ?_
  | ((with_reducible refine rd_isF (xs := ?x1) ?h1 ?_); (case h1 => walk_at "fz"))
  | ((with_reducible refine rd_lenTq (xs := ?x1) ?h1 ?_); (case h1 => walk_at "sq"))
  | ((with_reducible refine rd_atTq (xs := ?x1) ?h1 ?_); (case h1 => walk_at "sq"))
  | ((with_reducible refine rd_atEnq (xs := ?x1) ?h1 ?_); (case h1 => walk_at "sq"))
  | ((with_reducible refine rd_slTq (xs := ?x1) ?h1 ?_); (case h1 => walk_at "sq"))
  | ((with_reducible refine rd_inNq (N := ?x1) ?h1 ?_); (case h1 => walk_at "sq"))
  | ((with_reducible refine rd_setL (xs := ?x1) (j := ?j1) ?h1 ?e1 ?_); (case h1 => walk_at "hp"); (case e1 => rfl))
  | with_reducible refine rd_int1 ?_
  | with_reducible refine rd_x1 ?_
  | with_reducible refine rd_x2 ?_
  | ((with_reducible refine rd_tyL (xs := ?x1) ?h1 ?_); (case h1 => walk_at "hp"))
  | ((with_reducible refine rd_ixsL (xs := ?x1) (v := ?v1) ?h1 ?e1 ?_); (case h1 => walk_at "hp"); (case e1 => rfl))
  | ((with_reducible refine rd_ixsT (xs := ?x1) (v := ?v1) ?h1 ?e1 ?_); (case h1 => walk_at "hp"); (case e1 => rfl))
  | ((with_reducible refine rd_I ?c1 ?_); (case c1 => walk_at "ic"))
  | ((with_reducible refine if_t ?hb1 ?_); (case hb1 => rfl))
  | ((with_reducible refine if_f ?hb1 ?_); (case hb1 => rfl)))
local macro_rules | `(tactic| walk_at "go") => `(tactic| repeat (first | walk_at "st" | dsimp only))
section
variable {P : Program} {w : World} {K : Frag} {mg : Str → Option Value} {base : Heap}
/-- what form_in gives: the names' tuple, its object known -/
def PartsAt (H : Hp) (p : Addr) (N : List Str) (R : List Rl) : Prop := ∃ pf pr as, H p = some (.tup [.ref pf, .ref pr]) ∧ FrzT H pf (N.map V.str) ∧ H pr = some (.tup (as.map V.ref)) ∧ RlsAt H as R
theorem PartsAt.same {H H' : Hp} {p : Addr} {N : List Str} {R : List Rl} (h : PartsAt H p N R) (s : Same H H') : PartsAt H' p N R := by
  obtain ⟨pf, pr, as, h1, h2, h3, h4⟩ := h
  exact ⟨pf, pr, as, s _ _ h1, h2.same s, s _ _ h3, h4.tk (Same.tk s)⟩
abbrev N_form_in : List Str := ["value", "rows", "fields", "rules", "row"]
theorem sc_form_in : FnScope N_form_in ["value"] (defScope s_form_in) := ⟨rfl, rfl, rfl, by decide +kernel, rfl, by decide +kernel, by decide +kernel⟩
def sp_form_in : Sp := fun vs H Q _ => ∃ N : List Str, ∃ R : List Rl, vs = [.str (pageS N R)] ∧ FormOk N R ∧ ∀ H' p, Same H H' → PartsAt H' p N R → Q (.ref p) H'
theorem c_form_in (S : Sys K mg) : C8.Cal P w K mg base 5 "form_in" sp_form_in [] := by
  refine calD S.f_D_form_in S.g_form_in sc_form_in (fun _ _ _ _ _ _ us hl => match us, hl with | [_], _ => rfl) ?_ ?_
  · rintro vs H Q E ⟨_, _, rfl, _⟩
    rfl
  · rintro cdv A outer s H vs Q E hr ⟨N, R, rfl, ok, q⟩
    refine ⟨_, pss_cons (ps_set (i := 1) sc_form_in.nd rfl (Or.inl rfl) (pe_ifExp (pt_val (pe_callB (call_isiC (K := K) rfl) (by rfl) S.n_isinstance (by decide +kernel) (pa_cons (pv 0) (pa_cons (pe_bltn (v := .ty "str") (by rfl) S.n_str (by decide +kernel) rfl) pa_nil)))) (pe_split (pv 0) pe_str) (pe_lst (pa_cons pe_str pa_nil))))
      (pss_cons (ps_set (i := 2) sc_form_in.nd rfl (Or.inl rfl) (pe_callTy (call_tupF (K := K) rfl) (by rfl) S.n_tuple (by decide +kernel) (pa_cons (pe_split (pe_slice C8.sl_txt (pe_ix (ix_listC (K := K) rfl) (pv 1) pe_int (fun _ _ => rfl)) (po_some pe_int) po_none) pe_str) pa_nil)))
      (pss_cons (ps_set (i := 3) sc_form_in.nd rfl (Or.inl rfl) (pe_callTy (call_tuple_ofC (K := K) rfl) (by rfl) S.n_tuple (by decide +kernel) (pa_cons (pe_lc (own := [("row", 4)]) (g := gName 4) (tt := tYes) rfl sc_form_in.nd (pi_listC (K := K) rfl (pe_slice (sl_listC (K := K) rfl) (pv 1) (po_some pe_int) po_none)) (blkOk_by (N := N_form_in) (sc := defScope s_form_in) (by decide +kernel)) (fun _ _ _ _ _ => (pg_name (i := 4) sc_form_in.nd rfl (Or.inl rfl))) (fun _ _ _ _ _ => pts_nil) (fun _ _ _ _ _ => (C8.pe_c (c_rule_in (K := K) S) hr (by decide) rfl (pa_cons (pv 4) pa_nil)))) pa_nil)))
      (pss_cons (ps_if (PW.pt (pw_or (pt_cmpR op_notN (C8.pe_c (c_wrong_field (K := K) S) hr (by decide) rfl (pa_cons (pv 2) pa_nil)) pe_non (nomark _)) (pw_or1 (pt_cmpR op_notN (C8.pe_c (c_wrong_rule (K := K) S) hr (by decide) rfl (pa_cons (pv 3) (pa_cons (pv 2) pa_nil))) pe_non (nomark _))))) (pss_one (ps_ret pe_non)) pss_nil)
      (pss_one (ps_ret (pe_ifExp (pt_cmpR op_eq (C8.pe_c (c_form_text (K := K) S) hr (by decide) rfl (pa_cons (pv 2) (pa_cons (pv 3) pa_nil))) (pv 0) (nomark _)) (pe_tup (pa_cons (pv 2) (pa_cons (pv 3) pa_nil))) pe_non)))))), ?_⟩
    have l600 := page_len ok
    have l57 := head_len ok
    have l50 := names_len ok
    have n5 := ok.n5
    have r9 := ok.r9
    walk_at "go"
    refine ⟨_, _, rfl, rfl, by decide +kernel, sz (by omega), ?_⟩
    rw [page_split ok]
    intro p0 hp0
    have e0 : upd H p0 (.lst ((headS N :: R.map rowS).map V.str)) p0 = some (.lst ((headS N :: R.map rowS).map V.str)) := upd_same
    have s0 : Same H (upd H p0 (.lst ((headS N :: R.map rowS).map V.str))) := same_new hp0
    generalize upd H p0 (.lst ((headS N :: R.map rowS).map V.str)) = H0 at e0 s0
    walk_at "go"
    refine rd_ixL e0 (v := .str (headS N)) (atI_nat (j := 0) rfl) ?_
    walk_at "go"
    refine ⟨_, rfl, sz (by omega), ?_⟩
    rw [head_names]
    walk_at "go"
    refine ⟨_, _, rfl, rfl, by decide +kernel, sz (by omega), ?_⟩
    rw [names_split ok]
    intro p1 hp1
    walk_at "go"
    refine rd_tupF upd_same fun p2 H2 s2' e2 => ?_
    have s2 : Same H0 H2 := Same.trans (same_new hp1) s2'
    walk_at "go"
    intro p3 hp3
    have e3 : upd H2 p3 (.lst (cutV ((headS N :: R.map rowS).map V.str) (some 1) none)) p3 = some (.lst ((R.map rowS).map V.str)) := by
      rw [upd_same]
      exact congrArg (fun z => some (HO.lst z)) (cut_from _ 1)
    have s3 : Same H2 (upd H2 p3 (.lst (cutV ((headS N :: R.map rowS).map V.str) (some 1) none))) := same_new hp3
    generalize upd H2 p3 (.lst (cutV ((headS N :: R.map rowS).map V.str) (some 1) none)) = H3 at s3 e3
    walk_at "go"
    have wk : Walk (Itl K p3) R.length (fun H => SqL K H p3 ((R.map rowS).map V.str)) (YAt ((R.map rowS).map V.str)) := by
      have := walk_list (K := K) (a := p3) (xs := (R.map rowS).map V.str)
      rw [List.length_map, List.length_map] at this
      exact this
    refine lcW wk (fun j acc H1 => ∃ as : List Addr, acc = as.map V.ref ∧ as.length = j ∧ RlsAt H1 as (R.take j)) (fun _ _ _ _ t ⟨as, a, b, c⟩ => ⟨as, a, b, c.tk t⟩) ⟨[], rfl, rfl, RlsAt.nil⟩ (by omega) (fun H1 s => .inl (.inl (s _ _ e3))) (fun j x acc H1 H1' hj s f l hY Qy Qn hQ _ => ?_) fun L H1 acc hL s e f _ => ?_
    · obtain ⟨rfl, hx⟩ := hY
      obtain ⟨z, rfl, hz, _⟩ := get_names hx
      rw [List.getElem?_map, List.getElem?_eq_getElem hj] at hz
      cases hz
      walk_at "go"
      obtain ⟨as, rfl, b, c⟩ := f
      refine ⟨N, R[j], rfl, ok.rl _ (List.getElem_mem hj), ok.mn, fun H' p s' e' => ?_⟩
      refine hQ _ _ s' ⟨as ++ [p], by rw [List.map_append] <;> rfl, by rw [List.length_append, b] <;> rfl, ?_⟩
      rw [List.take_add_one, List.getElem?_eq_getElem hj]
      exact (c.tk (Same.tk s')).snoc e'
    · obtain ⟨as, rfl, b, c⟩ := f
      rw [List.take_length] at c
      walk_at "go"
      intro p4 hp4
      have e4 : upd H1 p4 (.tup (as.map V.ref)) p4 = some (.tup (as.map V.ref)) := upd_same
      have s4 : Same H1 (upd H1 p4 (.tup (as.map V.ref))) := same_new hp4
      generalize upd H1 p4 (.tup (as.map V.ref)) = H4 at s4 e4
      have s24 : Same H2 H4 := Same.trans s3 (Same.trans s s4)
      have c4 := c.tk (Same.tk s4)
      walk_at "go"
      have e24 := e2.same s24
      refine ⟨p2, N, rfl, e24.sq, n5, ok.nd, ok.mn, fun H5 s5 => ?_⟩
      walk_at "go"
      have e25 := e24.same s5
      refine ⟨p4, p2, as, N, R, rfl, s5 _ _ e4, e25.sq, c4.tk (Same.tk s5), ok.rl, r9, fun H6 s6 => ?_⟩
      walk_at "go"
      have e26 := e25.same s6
      refine ⟨p2, p4, as, N, R, rfl, e26.sq, s6 _ _ (s5 _ _ e4), c4.tk (Same.tk (Same.trans s5 s6)), ok, fun H7 s7 => ?_⟩
      have s57 : Same H4 H7 := Same.trans s5 (Same.trans s6 s7)
      walk_at "go"
      refine if_t (decide_eq_true rfl) ?_
      walk_at "go"
      refine ⟨szc rfl, fun p5 hp5 => ?_⟩
      have s8 : Same H7 (upd H7 p5 (.tup [.ref p2, .ref p4])) := same_new hp5
      refine q _ _ (Same.trans s0 (Same.trans s2 (Same.trans s24 (Same.trans s57 s8)))) ⟨p2, p4, as, upd_same, (e26.same s7).same s8, s8 _ _ (s57 _ _ e4), c4.tk (Same.tk (Same.trans s57 s8))⟩
abbrev N_check_fields : List Str := ["fields", "wrong"]
theorem sc_check_fields : FnScope N_check_fields ["fields"] (defScope s_check_fields) := ⟨rfl, rfl, rfl, by decide +kernel, rfl, by decide +kernel, by decide +kernel⟩
def sp_check_fields (K : Frag) : Sp := fun vs H Q _ => ∃ a, ∃ N : List Str, vs = [.ref a] ∧ SqT K H a (N.map V.str) ∧ 1 ≤ N.length ∧ N.length ≤ 5 ∧ N.Nodup ∧ (∀ z ∈ N, z ∈ menu) ∧ ∀ H', Same H H' → Q .non H'
theorem c_check_fields (S : Sys K mg) : C8.Cal P w K mg base 4 "check_fields" (sp_check_fields K) [] := by
  refine calD S.f_D_check_fields S.g_check_fields sc_check_fields (fun _ _ _ _ _ _ us hl => match us, hl with | [_], _ => rfl) ?_ ?_
  · rintro vs H Q E ⟨_, _, rfl, _⟩
    rfl
  · rintro cdv A outer s H vs Q E hr ⟨a, N, rfl, ha, n1, n5, nd, mn, q⟩
    refine ⟨_, pss_cons (ps_if (PW.pt (pw_or (pt_not (pt_val (pe_callB (call_isiC (K := K) rfl) (by rfl) S.n_isinstance (by decide +kernel) (pa_cons (pv 0) (pa_cons (pe_bltn (v := .ty "tuple") (by rfl) S.n_tuple (by decide +kernel) rfl) pa_nil))))) (pw_or1 (pt_cmpR (op_eqDC (K := K) rfl hr.units) (pv 0) (pe_tup pa_nil) (nomark _))))) (pss_one ps_never) pss_nil)
      (pss_cons (ps_set (i := 1) sc_check_fields.nd rfl (Or.inl rfl) (C8.pe_c (c_wrong_field (K := K) S) hr (by decide) rfl (pa_cons (pv 0) pa_nil)))
      (pss_one (ps_if (pt_cmpR op_notN (pv 1) pe_non (nomark _)) (pss_one ps_never) pss_nil))), ?_⟩
    walk_at "go"
    refine isi_of (T := "tuple") (Dp.tup ha (names_da (N := fun _ => True) (H := H)).dp) (kit_tuple _) ?_
    walk_at "go"
    refine ⟨szc rfl, fun p hp => ?_⟩
    refine ⟨.tuple (N.map PyData.str), .tuple [], Dp.tup (sqt_new hp ha) (names_da (N := fun _ => True)).dp, dp_tup upd_same .nil, shaped_tstrs fun z hz => menu_ok z (mn z hz), rfl, ?_⟩
    have e : PyData.eqv (.tuple (N.map PyData.str)) (.tuple []) = false := by
      cases N with
      | nil => exact absurd n1 (by decide)
      | cons z N => rfl
    rw [e]
    walk_at "go"
    refine ⟨a, N, rfl, sqt_new hp ha, n5, nd, mn, fun H2 s2 => ?_⟩
    walk_at "go"
    exact q _ (Same.trans (same_new hp) s2)
end
end K59
/-! K59P7 -/
set_option Elab.async false
set_option linter.all false
set_option maxRecDepth 100000
set_option maxHeartbeats 4000000
namespace K59
open PySem PySem.W PySem.Calls PySem.Spec PyProof.Rows L2
local macro_rules | `(tactic| walk_at "hp") => `(tactic| first
  | assumption
  | exact upd_same
  | (refine same_new (by assumption) _ _ ?_; walk_at "hp")
  | (refine (by assumption : Same _ _) _ _ ?_; walk_at "hp")
  | (refine FK.tk (by assumption) (by assumption) _ _ ?_; walk_at "hp"))
local macro_rules | `(tactic| walk_at "sq") => `(tactic| first
  | assumption
  | exact FrzT.sq (by assumption)
  | (refine sqt_new (by assumption) ?_; walk_at "sq")
  | (refine sqt_same ?_ (by assumption); walk_at "sq"))
local macro_rules | `(tactic| walk_at "fz") => `(tactic| first
  | assumption
  | (refine frz_new (by assumption) ?_; walk_at "fz")
  | (refine FrzT.same ?_ (by assumption); walk_at "fz"))
local macro_rules | `(tactic| walk_at "ic") => `(tactic| first
  | ((with_reducible show (0 : Int) < _); decide)
  | exact Or.inl ⟨by decide, by decide⟩
  | exact Or.inr ⟨by decide, by decide⟩
  | exact (show (0 : Int) < _ ∧ _ < (1073741824 : Int) from ⟨by decide, by decide⟩)
  | exact (show (0 : Int) ≤ _ ∧ _ ≤ (1000000 : Int) ∧ Int.natAbs _ < 2 ^ 64 from ⟨by decide, by decide, by decide⟩)
  | exact (⟨by decide, by decide, by decide⟩ : _ ∧ _ ∧ _))
local macro_rules | `(tactic| walk_at "st") => `(tactic| first
  | with_reducible refine rd_var rfl ?_
  | with_reducible refine rd_c ?_
  | with_reducible refine rd_cons ?_
  | with_reducible refine rd_nil ?_
  | with_reducible refine rd_op ?_
  | with_reducible refine rd_cb ?_
  | with_reducible refine rd_call ?_
  | with_reducible refine rd_test ?_
  | with_reducible refine rd_B ?_
  | with_reducible refine rd_bl ?_
  | with_reducible refine rd_un ?_
  | with_reducible refine rd_and ?_
  | with_reducible refine rd_or ?_
  | with_reducible refine rd_not ?_
  | with_reducible refine rd_andV ?_
  | with_reducible refine rd_orV ?_
  | with_reducible refine rd_notV ?_
  | with_reducible refine rd_if ?_
  | with_reducible refine rd_chain ?_
  | with_reducible refine rd_I0 ?_
  | with_reducible refine rd_U ?_
  | with_reducible refine rd_eqI ?_
  | with_reducible refine rd_neI ?_
  | with_reducible refine rd_eqS ?_
  | with_reducible refine rd_neS ?_
  | with_reducible refine rd_nn ?_
  | with_reducible refine rd_asg ?_
  | with_reducible refine rd_gname ?_
  | with_reducible refine rd_seq ?_
  | with_reducible refine rd_ifS ?_
  | with_reducible refine rd_ret ?_
  | with_reducible refine rd_next ?_
  | with_reducible refine rd_cont ?_
  | with_reducible refine rd_drop ?_
  | with_reducible refine rd_par ?_
  | with_reducible refine rd_vs2 ?_
  | with_reducible refine rd_gsub ?_
  | with_reducible refine rd_gcons ?_
  | with_reducible refine rd_gnil ?_
  | with_reducible refine rd_tup ?_
  | with_reducible refine rd_lst ?_
  | with_reducible refine rd_sl ?_
  | with_reducible refine rd_part ?_
  | with_reducible refine rd_nopart ?_
  | with_reducible refine rd_i1 ?_
  | with_reducible refine rd_bm ?_
  | with_reducible refine rd_yes ?_
  | with_reducible refine rd_lcT ?_
  | with_reducible refine rd_lcL ?_
  | with_reducible refine rd_lcR1 ?_
  | with_reducible refine rd_lcS ?_
  | with_reducible refine rd_forT ?_
  | with_reducible refine rd_forL ?_
  | with_reducible refine rd_forR1 ?_
  | with_reducible refine rd_atS ?_
  | with_reducible refine rd_forEn ?_
  | with_reducible refine rd_dget ?_
  | with_reducible refine rd_din ?_
  | with_reducible refine rd_dget2 ?_
  | with_reducible refine rd_dput ?_
  | with_reducible refine rd_disp ?_
  | with_reducible refine rd_pcons ?_
  | with_reducible refine rd_pnil ?_
  | with_reducible refine rd_dcL ?_
  | with_reducible refine rd_lcEn ?_
  | with_reducible refine rd_yS ?_
  | with_reducible refine rd_m1 ?_
  | with_reducible refine rd_meth ?_
  | with_reducible refine rd_fld ?_
  | with_reducible refine rd_sfld ?_
  | with_reducible refine rd_make ?_
  | with_reducible refine rd_fmt ?_
  | with_reducible refine rd_js ?_
  | with_reducible refine rd_js0 ?_
  | with_reducible refine iteT ?_
  | with_reducible refine iteF ?_
  | ((with_reducible refine isi_int (d := ?d1) (N := ?n1) ?h1 ?_); (case h1 => assumption))
  | ((with_reducible refine isi_bool (d := ?d1) (N := ?n1) ?h1 ?_); (case h1 => assumption))
  | ((with_reducible refine isi_str (d := ?d1) (N := ?n1) ?h1 ?_); (case h1 => assumption))
  | ((with_reducible refine isi_tuple (d := ?d1) (N := ?n1) ?h1 ?_); (case h1 => assumption))
  | with_reducible refine isi_str (N := fun _ => True) (Da.str _) ?_
  | with_reducible refine isi_int (N := fun _ => True) (Da.int _) ?_
  | with_reducible refine isi_bool (N := fun _ => True) (Da.int _) ?_
  | with_reducible refine isi_str (N := fun _ => True) (Da.int _) ?_
  | ((with_reducible show (wipe _ _ = wipe _ _) ∧ _); refine ⟨rfl, ?_⟩)
  | ((with_reducible show Ends.nx _ _ _); dsimp only)
  | ((with_reducible show Ends.rt _ _ _); dsimp only)
  | ((with_reducible show Ends.ct _ _ _); dsimp only)
  | ((with_reducible refine rd_ixT (xs := ?x1) (v := ?v1) ?h1 ?e1 ?_); (case h1 => walk_at "hp"); (case e1 => rfl))
  | ((with_reducible refine rd_ixL (xs := ?x1) (v := ?v1) ?h1 ?e1 ?_); (case h1 => walk_at "hp"); (case e1 => rfl))
  | ((with_reducible refine rd_lenT (xs := ?x1) ?h1 ?_); (case h1 => walk_at "hp"))
  | ((with_reducible refine rd_lenL (xs := ?x1) ?h1 ?_); (case h1 => walk_at "hp"))
  | ((with_reducible refine rd_tupOf (xs := ?x1) ?h1 ?_); (case h1 => walk_at "hp"))
  | ((with_reducible refine rd_all (bs := ?x1) ?h1 ?_); (case h1 => walk_at "hp"))
  | ((with_reducible refine rd_atT (xs := ?x1) ?h1 ?_); (case h1 => walk_at "hp"))
  | ((with_reducible refine rd_atL (xs := ?x1) ?h1 ?_); (case h1 => walk_at "hp"))
  | ((with_reducible refine rd_gtup (xs := ?x1) ?h1 ?e1 ?_); (case h1 => walk_at "hp"); (case e1 => rfl))
  | ((with_reducible refine rd_atEn (xs := ?x1) ?h1 ?_); (case h1 => walk_at "hp"))
  | ((with_reducible refine rd_slT (xs := ?x1) ?h1 ?_); (case h1 => walk_at "hp"))
  | ((with_reducible refine rd_slL (xs := ?x1) ?h1 ?_); (case h1 => walk_at "hp"))
  | ((with_reducible refine rd_inN (N := ?x1) ?h1 ?_); (case h1 => walk_at "hp"))
  | ((with_reducible refine rd_inL (N := ?x1) ?h1 ?_); (case h1 => walk_at "hp"))
  | ((with_reducible refine rd_notInN (N := ?x1) ?h1 ?_); (case h1 => walk_at "hp"))
  | ((with_reducible refine rd_notInL (N := ?x1) ?h1 ?_); (case h1 => walk_at "hp"))
  | with_reducible refine rd_tm ?_
  | ((with_reducible refine rd_isF (xs := ?x1) ?h1 ?_); (case h1 => walk_at "fz"))
  | ((with_reducible refine rd_lenTq (xs := ?x1) ?h1 ?_); (case h1 => walk_at "sq"))
  | ((with_reducible refine rd_atTq (xs := ?x1) ?h1 ?_); (case h1 => walk_at "sq"))
  | ((with_reducible refine rd_atEnq (xs := ?x1) ?h1 ?_); (case h1 => walk_at "sq"))
  | ((with_reducible refine rd_slTq (xs := ?x1) ?h1 ?_); (case h1 => walk_at "sq"))
  | ((with_reducible refine rd_inNq (N := ?x1) ?h1 ?_); (case h1 => walk_at "sq"))
  | ((with_reducible refine rd_setL (xs := ?x1) (j := ?j1) ?h1 ?e1 ?_); (case h1 => walk_at "hp"); (case e1 => rfl))
  | with_reducible refine rd_int1 ?_
  | with_reducible refine rd_x1 ?_
  | with_reducible refine rd_x2 ?_
  | ((with_reducible refine rd_tyL (xs := ?x1) ?h1 ?_); (case h1 => walk_at "hp"))
  | ((with_reducible refine rd_ixsL (xs := ?x1) (v := ?v1) ?h1 ?e1 ?_); (case h1 => walk_at "hp"); (case e1 => rfl))
  | ((with_reducible refine rd_ixsT (xs := ?x1) (v := ?v1) ?h1 ?e1 ?_); (case h1 => walk_at "hp"); (case e1 => rfl))
  | ((with_reducible refine rd_I ?c1 ?_); (case c1 => walk_at "ic"))
  | ((with_reducible refine if_t ?hb1 ?_); (case hb1 => rfl))
  | ((with_reducible refine if_f ?hb1 ?_); (case hb1 => rfl)))
local macro_rules | `(tactic| walk_at "go") => `(tactic| repeat (first | walk_at "st" | dsimp only))
section
variable {P : Program} {w : World} {K : Frag} {mg : Str → Option Value} {base : Heap}

/-! ### a form -/
structure FormP (K : Frag) (H : Hp) (o : Addr) (N : List Str) (R : List Rl) : Prop where
  ex : ∃ dx fs pf pr as, H o = some (.ins (He.ga K "Form") dx fs) ∧ fs.lookup ("fields" : Str) = some (.ref pf) ∧ fs.lookup ("rules" : Str) = some (.ref pr) ∧ fs.lookup ("ends_of" : Str) = none ∧ fs.lookup ("keeps" : Str) = none ∧ fs.lookup ("broken" : Str) = none ∧ fs.lookup ("own_table" : Str) = none ∧
    FrzT H pf (N.map V.str) ∧ H pr = some (.tup (as.map V.ref)) ∧ RlsAt H as R
theorem FormP.same {H H' : Hp} {o : Addr} {N : List Str} {R : List Rl} (h : FormP K H o N R) (s : Same H H') : FormP K H' o N R := by
  obtain ⟨dx, fs, pf, pr, as, h1, h2, h3, h4, h5, h6, h7, h8, h9, h10⟩ := h.ex
  exact ⟨dx, fs, pf, pr, as, s _ _ h1, h2, h3, h4, h5, h6, h7, h8.same s, s _ _ h9, h10.tk (Same.tk s)⟩
def ixOf (x : Str) : List Str → Nat
  | [] => 0
  | y :: ys => if y = x then 0 else ixOf x ys + 1
theorem ixOf_get {x : Str} : ∀ {N : List Str}, x ∈ N → N[ixOf x N]? = some x ∧ ∀ m, m < ixOf x N → N[m]? ≠ some x
  | [], h => by cases h
  | y :: ys, h => by
    unfold ixOf
    by_cases e : y = x
    · rw [if_pos e]
      exact ⟨by rw [e] <;> rfl, fun m hm => absurd hm (Nat.not_lt_zero _)⟩
    · rw [if_neg e]
      have hm : x ∈ ys := (List.mem_cons.mp h).elim (fun z => absurd z.symm e) id
      obtain ⟨a, b⟩ := ixOf_get hm
      refine ⟨by rw [List.getElem?_cons_succ]; exact a, fun m hm => ?_⟩
      cases m with
      | zero =>
        intro z
        exact e (Option.some.inj z)
      | succ m =>
        rw [List.getElem?_cons_succ]
        exact b m (by omega)
theorem ixOf_lt {x : Str} {N : List Str} (h : x ∈ N) : ixOf x N < N.length := (List.getElem?_eq_some_iff.mp (ixOf_get h).1).1
def posN (N : List Str) (x : Str) : Nat := if x = eS then 0 else 1 + ixOf x N
theorem posN_0 (N : List Str) : posN N eS = 0 := if_pos rfl
theorem posN_s {N : List Str} {x : Str} (h : x ≠ eS) : ((posN N x : Nat) : Int) = 1 + (ixOf x N : Int) := by
  rw [posN, if_neg h, Int.natCast_add] <;> rfl
theorem posN_lt {N : List Str} {x : Str} (h : x ∈ eS :: N) : posN N x < N.length + 1 := by
  rw [posN]
  by_cases e : x = eS
  · rw [if_pos e]
    omega
  · rw [if_neg e]
    have := ixOf_lt ((List.mem_cons.mp h).elim (fun z => absurd z e) id)
    omega
def endsV (N : List Str) (r : Rl) : List V := [.int (posN N r.hi : Nat), .int (posN N r.lo : Nat), .int r.bd]
abbrev N_F_ends_of : List Str := ["self", "rule", "first", "one"]
theorem sc_F_ends_of : FnScope N_F_ends_of ["self", "rule", "first"] (defScope sF_ends_of) := ⟨rfl, rfl, rfl, by decide +kernel, rfl, by decide +kernel, by decide +kernel⟩
def sp_ends_of (K : Frag) : Sp := fun vs H Q _ => ∃ o a, ∃ N : List Str, ∃ R r, vs = [.ref o, .ref a, .int 1] ∧ FormP K H o N R ∧ H a = some (.tup (rv r)) ∧ RlOk N r ∧ (∀ x ∈ N, x ≠ eS) ∧ ∀ H' p, Same H H' → H' p = some (.tup (endsV N r)) → Q (.ref p) H'
theorem m_ends_of (S : Sys K mg) : C8.Met P w K mg base 1 (He.ga K "Form") "ends_of" (sp_ends_of K) [] := by
  refine metD S.clF S.me_ends_of S.f_DF_ends_of sc_F_ends_of (fun _ _ _ _ _ _ us hl => match us, hl with | [_, _, _], _ => rfl) ?_ ?_
  · rintro vs H Q E ⟨_, _, _, _, _, rfl, _⟩
    rfl
  · rintro cdv A outer s H vs Q E hr ⟨o, a, N, R, r, rfl, hF, ha, ok, ne, q⟩
    refine ⟨_, pss_cons (ps_set (i := 3) sc_F_ends_of.nd rfl (Or.inl rfl) (pe_op op_add (pv 2) (pe_tm PySem.F.plainAttrs_tuple PySem.F.slot_tuple_index PySem.F.type_tuple_index (mt_tup_indexC (K := K) rfl) (pe_fldC (K := K) rfl (pv 0) rfl) (pa_cons (pe_ix (ix_tupC (K := K) rfl) (pv 1) pe_int (fun _ _ => rfl)) pa_nil))))
      (pss_cons (ps_if (pt_cmpR op_eq (pe_ix (ix_tupC (K := K) rfl) (pv 1) pe_int (fun _ _ => rfl)) pe_str (nomark _)) (pss_one (ps_ret (pe_tup (pa_cons (pv 3) (pa_cons (pe_op op_add (pv 2) (pe_tm PySem.F.plainAttrs_tuple PySem.F.slot_tuple_index PySem.F.type_tuple_index (mt_tup_indexC (K := K) rfl) (pe_fldC (K := K) rfl (pv 0) rfl) (pa_cons (pe_ix (ix_tupC (K := K) rfl) (pv 1) pe_int (fun _ _ => rfl)) pa_nil))) (pa_cons (pe_ix (ix_tupC (K := K) rfl) (pv 1) pe_int (fun _ _ => rfl)) pa_nil)))))) pss_nil)
      (pss_one (ps_ret (pe_ifExp (pt_cmpR op_eq (pe_ix (ix_tupC (K := K) rfl) (pv 1) pe_int (fun _ _ => rfl)) pe_str (nomark _)) (pe_tup (pa_cons (pv 3) (pa_cons pe_int (pa_cons (pe_ix (ix_tupC (K := K) rfl) (pv 1) pe_int (fun _ _ => rfl)) pa_nil)))) (pe_tup (pa_cons pe_int (pa_cons (pv 3) (pa_cons (pe_un un_neg (pe_ix (ix_tupC (K := K) rfl) (pv 1) pe_int (fun _ _ => rfl))) pa_nil)))))))), ?_⟩
    obtain ⟨dx, fs, pf, pr, as, h1, h2, h3, h4, h5, h6, h7, h8, h9, h10⟩ := hF.ex
    have fld : ∀ {R : V → Prop}, R (.ref pf) → ∃ a' C' dx' fs' v, V.ref o = .ref a' ∧ H a' = some (.ins C' dx' fs') ∧ Cls K C' ∧ NoAttr K C' "fields" ∧ fs'.lookup ("fields" : Str) = some v ∧ R v := fun q => ⟨o, _, dx, fs, _, rfl, h1, S.clF, S.no_fields, h2, q⟩
    have idx : ∀ {z : Str} {R : Nat → Prop}, z ∈ N → R (ixOf z N) → ∃ p, ∃ ys : List Str, ∃ z' j, V.ref pf = .ref p ∧ [V.str z] = [.str z'] ∧ SqT K H p (ys.map V.str) ∧ ys[j]? = some z' ∧ (∀ m, m < j → ys[m]? ≠ some z') ∧ R j :=
      fun hz q => ⟨pf, N, _, _, rfl, rfl, h8.sq, (ixOf_get hz).1, (ixOf_get hz).2, q⟩
    cases r with
    | gap x y c =>
      have nx := ne x ok.1
      have ny := ne y ok.2.1
      walk_at "go"
      refine fld ?_
      walk_at "go"
      refine idx ok.1 ?_
      walk_at "go"
      refine fld ?_
      walk_at "go"
      refine idx ok.2.1 ?_
      walk_at "go"
      refine ⟨szc rfl, fun p hp => q _ p (same_new hp) ?_⟩
      rw [upd_same, endsV]
      show some (HO.tup _) = some (HO.tup [.int (posN N x : Nat), .int (posN N y : Nat), .int c])
      rw [posN_s nx, posN_s ny]
    | most x c =>
      have nx := ne x ok.1
      walk_at "go"
      refine fld ?_
      walk_at "go"
      refine idx ok.1 ?_
      walk_at "go"
      refine ⟨szc rfl, fun p hp => q _ p (same_new hp) ?_⟩
      rw [upd_same, endsV]
      show some (HO.tup _) = some (HO.tup [.int (posN N x : Nat), .int (posN N eS : Nat), .int c])
      rw [posN_s nx, posN_0] <;> rfl
    | least x c =>
      have nx := ne x ok.1
      walk_at "go"
      refine fld ?_
      walk_at "go"
      refine idx ok.1 ?_
      walk_at "go"
      refine ⟨szc rfl, fun p hp => q _ p (same_new hp) ?_⟩
      rw [upd_same, endsV]
      show some (HO.tup _) = some (HO.tup [.int (posN N eS : Nat), .int (posN N x : Nat), .int (-c)])
      rw [posN_s nx, posN_0] <;> rfl
theorem FormP.fld {H : Hp} {o : Addr} {N : List Str} {R : List Rl} (S : Sys K mg) (h : FormP K H o N R) : ∃ pf, FrzT H pf (N.map V.str) ∧ ∀ {H' : Hp} {R : V → Prop}, Same H H' → R (.ref pf) → ∃ a' C' dx' fs' v, V.ref o = .ref a' ∧ H' a' = some (.ins C' dx' fs') ∧ Cls K C' ∧ NoAttr K C' "fields" ∧ fs'.lookup ("fields" : Str) = some v ∧ R v := by
  obtain ⟨dx, fs, pf, pr, as, h1, h2, h3, h4, h5, h6, h7, h8, h9, h10⟩ := h.ex
  exact ⟨pf, h8, fun s q => ⟨o, _, dx, fs, _, rfl, s _ _ h1, S.clF, S.no_fields, h2, q⟩⟩
theorem FormP.rls {H : Hp} {o : Addr} {N : List Str} {R : List Rl} (S : Sys K mg) (h : FormP K H o N R) : ∃ pr as, H pr = some (.tup (as.map V.ref)) ∧ RlsAt H as R ∧ ∀ {H' : Hp} {R : V → Prop}, Same H H' → R (.ref pr) → ∃ a' C' dx' fs' v, V.ref o = .ref a' ∧ H' a' = some (.ins C' dx' fs') ∧ Cls K C' ∧ NoAttr K C' "rules" ∧ fs'.lookup ("rules" : Str) = some v ∧ R v := by
  obtain ⟨dx, fs, pf, pr, as, h1, h2, h3, h4, h5, h6, h7, h8, h9, h10⟩ := h.ex
  exact ⟨pr, as, h9, h10, fun s q => ⟨o, _, dx, fs, _, rfl, s _ _ h1, S.clF, S.no_rules, h3, q⟩⟩
section
variable {H : Hp} {o : Addr} {N : List Str} {R : List Rl} {R1 : Addr → Prop}
theorem FormP.me1 (h : FormP K H o N R) (q : R1 o) : ∃ a dx fs, V.ref o = .ref a ∧ H a = some (.ins (He.ga K "Form") dx fs) ∧ fs.lookup ("ends_of" : Str) = none ∧ R1 a := by
  obtain ⟨dx, fs, pf, pr, as, h1, h2, h3, h4, h5, h6, h7, h8, h9, h10⟩ := h.ex
  exact ⟨o, dx, fs, rfl, h1, h4, q⟩
theorem FormP.me2 (h : FormP K H o N R) (q : R1 o) : ∃ a dx fs, V.ref o = .ref a ∧ H a = some (.ins (He.ga K "Form") dx fs) ∧ fs.lookup ("keeps" : Str) = none ∧ R1 a := by
  obtain ⟨dx, fs, pf, pr, as, h1, h2, h3, h4, h5, h6, h7, h8, h9, h10⟩ := h.ex
  exact ⟨o, dx, fs, rfl, h1, h5, q⟩
theorem FormP.me3 (h : FormP K H o N R) (q : R1 o) : ∃ a dx fs, V.ref o = .ref a ∧ H a = some (.ins (He.ga K "Form") dx fs) ∧ fs.lookup ("broken" : Str) = none ∧ R1 a := by
  obtain ⟨dx, fs, pf, pr, as, h1, h2, h3, h4, h5, h6, h7, h8, h9, h10⟩ := h.ex
  exact ⟨o, dx, fs, rfl, h1, h6, q⟩
theorem FormP.me4 (h : FormP K H o N R) (q : R1 o) : ∃ a dx fs, V.ref o = .ref a ∧ H a = some (.ins (He.ga K "Form") dx fs) ∧ fs.lookup ("own_table" : Str) = none ∧ R1 a := by
  obtain ⟨dx, fs, pf, pr, as, h1, h2, h3, h4, h5, h6, h7, h8, h9, h10⟩ := h.ex
  exact ⟨o, dx, fs, rfl, h1, h7, q⟩
end
theorem int_n {n : Nat} : (Int.ofNat n) = (n : Int) := rfl
abbrev N_F_own_table : List Str := ["self", "first", "other_first", "many", "found", "rule", "start", "one", "other", "bound"]
theorem sc_F_own_table : FnScope N_F_own_table ["self", "first", "other_first", "many"] (defScope sF_own_table) := ⟨rfl, rfl, rfl, by decide +kernel, rfl, by decide +kernel, by decide +kernel⟩
def sp_own_table (K : Frag) : Sp := fun vs H Q _ => ∃ o, ∃ N : List Str, ∃ R m, vs = [.ref o, .int 1, .int 0, .int m] ∧ m = (N.length + 1 : Nat) ∧ FormP K H o N R ∧ FormOk N R ∧ ∀ H' t, Same H H' → Mat H H' (N.length + 1) t → Q (.ref t) H'
theorem m_own_table (S : Sys K mg) : C8.Met P w K mg base 2 (He.ga K "Form") "own_table" (sp_own_table K) [] := by
  refine metD S.clF S.me_own_table S.f_DF_own_table sc_F_own_table (fun _ _ _ _ _ _ us hl => match us, hl with | [_, _, _, _], _ => rfl) ?_ ?_
  · rintro vs H Q E ⟨_, _, _, _, rfl, _⟩
    rfl
  · rintro cdv A outer s H vs Q E hr ⟨o, N, R, m, rfl, rfl, hF, ok, q⟩
    refine ⟨_, pss_cons (ps_set (i := 4) sc_F_own_table.nd rfl (Or.inl rfl) (C8.pe_c (c_empty_table (K := K) S) hr (by decide) rfl (pa_cons (pv 3) pa_nil)))
      (pss_cons (ps_for PassesOwn.never rfl (pi_tupC (K := K) rfl (pe_fldC (K := K) rfl (pv 0) rfl)) (pg_name (i := 5) sc_F_own_table.nd rfl (Or.inl rfl))
        (pss_one (ps_for PassesOwn.never rfl (pi_tupC (K := K) rfl (pe_ifExp (pt_cmpR op_gt (pv 2) pe_int (nomark _)) (pe_tup (pa_cons (pv 1) (pa_cons (pv 2) pa_nil))) (pe_tup (pa_cons (pv 1) pa_nil)))) (pg_name (i := 6) sc_F_own_table.nd rfl (Or.inl rfl))
        (pss_cons (ps_asg (C8.pe_mt (m_ends_of (K := K) S) hr (by decide) (pv 0) (pa_cons (pv 5) (pa_cons (pv 6) pa_nil))) (pg_tupC (K := K) rfl rfl (pgs_cons (pg_name (i := 7) sc_F_own_table.nd rfl (Or.inl rfl)) (pgs_cons (pg_name (i := 8) sc_F_own_table.nd rfl (Or.inl rfl)) (pgs_cons (pg_name (i := 9) sc_F_own_table.nd rfl (Or.inl rfl)) pgs_nil)))))
      (pss_one (ps_expr (C8.pe_c (c_put (K := K) S) hr (by decide) rfl (pa_cons (pv 4) (pa_cons (pv 7) (pa_cons (pv 8) (pa_cons (pv 9) pa_nil)))))))))))
      (pss_one (ps_ret (pv 4)))), ?_⟩
    have n5 := ok.n5
    obtain ⟨pr, as, h9, h10, fld⟩ := hF.rls S
    walk_at "go"
    refine ⟨N.length + 1, rfl, by omega, fun H1 t s1 M1 => ?_⟩
    walk_at "go"
    refine fld s1 ?_
    have h91 := s1 _ _ h9
    walk_at "go"
    refine forW (Y := YAt (as.map V.ref)) walk_tup (fun _ σ H2 => ∃ x5 x6 x7 x8 x9, σ = [some (.ref o), some (.int 1), some (.int 0), some (.int (N.length + 1 : Nat)), some (.ref t), x5, x6, x7, x8, x9] ∧ Same H H2 ∧ Mat H H2 (N.length + 1) t) ⟨_, _, _, _, _, rfl, s1, M1⟩ (fun _ _ _ _ ⟨_, _, _, _, _, _, s, _⟩ => .inl (.inl (s _ _ h9))) (fun i x σ H2 H2' hi ⟨x5, x6, x7, x8, x9, eσ, s2, M2⟩ hY => ?_) fun σ H2 ⟨x5, x6, x7, x8, x9, eσ, s2, M2⟩ => ?_
    · obtain ⟨rfl, hx⟩ := hY
      obtain ⟨b, r, rfl, hb, hrr, hat⟩ := h10.get hx
      have okr := ok.rl r (List.mem_of_getElem? hrr)
      subst eσ
      walk_at "go"
      refine ⟨szc rfl, fun p hp => ?_⟩
      have s3 : Same H2' (upd H2' p (.tup [.int 1])) := same_new hp
      have M3 := M2.same s3
      have e3 : upd H2' p (.tup [.int 1]) p = some (.tup [.int 1]) := upd_same
      generalize upd H2' p (.tup [.int 1]) = H3 at s3 M3 e3
      have s03 := Same.trans s2 s3
      refine ⟨p, rfl, ⟨_, .inl (.inl e3)⟩, ?_⟩
      refine forW (Y := YAt [.int 1]) walk_tup (fun _ σ H2 => ∃ x6 x7 x8 x9, σ = [some (.ref o), some (.int 1), some (.int 0), some (.int (N.length + 1 : Nat)), some (.ref t), some (.ref b), x6, x7, x8, x9] ∧ Same H H2 ∧ H2 p = some (.tup [.int 1]) ∧ Mat H H2 (N.length + 1) t) ⟨_, _, _, _, rfl, s03, e3, M3⟩ (fun _ _ _ _ ⟨_, _, _, _, _, _, e, _⟩ => .inl (.inl e)) (fun i x σ H4 H4' hi ⟨x6, x7, x8, x9, eσ, s4, e4, M4⟩ hY => ?_) fun σ H4 ⟨x6, x7, x8, x9, eσ, s4, e4, M4⟩ => ?_
      · obtain ⟨rfl, hx⟩ := hY
        have ex : x = .int 1 := by
          cases i with
          | zero => exact (Option.some.inj hx).symm
          | succ i => exact absurd hi (by simp)
        subst ex
        subst eσ
        walk_at "go"
        refine (hF.same s4).me1 ?_
        walk_at "go"
        refine ⟨o, b, N, R, r, rfl, hF.same s4, s4 _ _ hat, okr, ok.ne, fun H5 p5 s5 e5 => ?_⟩
        unfold endsV at e5
        walk_at "go"
        exact ⟨H, N.length + 1, t, posN N r.hi, posN N r.lo, _, rfl, posN_lt okr.hi, posN_lt okr.lo, Same.trans s4 s5, M4.same s5, fun H6 s6 t6 M6 => ⟨_, _, _, _, rfl, s6, t6 _ _ (s5 _ _ e4), M6⟩⟩
      · subst eσ
        exact ⟨_, _, _, _, _, rfl, s4, M4⟩
    · subst eσ
      walk_at "go"
      exact q _ _ s2 M2
abbrev N_F_keeps : List Str := ["self", "rule", "filling", "values", "one", "other", "bound"]
theorem sc_F_keeps : FnScope N_F_keeps ["self", "rule", "filling"] (defScope sF_keeps) := ⟨rfl, rfl, rfl, by decide +kernel, rfl, by decide +kernel, by decide +kernel⟩
def cell (ns : List Int) (k : Nat) : Int := ((0 :: ns)[k]?).getD 0
def keepsB (N : List Str) (ns : List Int) (r : Rl) : Bool := decide (cell ns (posN N r.hi) - cell ns (posN N r.lo) ≤ r.bd)
theorem cell_at {ns : List Int} {k : Nat} (h : k < ns.length + 1) : atI ([V.int 0] ++ ns.map V.int) (k : Int) = some (.int (cell ns k)) := by
  refine atI_nat ?_
  have e : [V.int 0] ++ ns.map V.int = (0 :: ns).map V.int := rfl
  rw [e, List.getElem?_map, cell]
  have h2 : k < (0 :: ns).length := by
    rw [List.length_cons]
    exact h
  rw [List.getElem?_eq_getElem h2] <;> rfl
def sp_keeps (K : Frag) : Sp := fun vs H Q _ => ∃ o a l, ∃ N : List Str, ∃ R r, ∃ ns : List Int, vs = [.ref o, .ref a, .ref l] ∧ FormP K H o N R ∧ H a = some (.tup (rv r)) ∧ RlOk N r ∧ (∀ x ∈ N, x ≠ eS) ∧ N.length ≤ 5 ∧ H l = some (.tup (ns.map V.int)) ∧ ns.length = N.length ∧ ∀ H', Same H H' → Q (.bl (keepsB N ns r)) H'
theorem m_keeps (S : Sys K mg) : C8.Met P w K mg base 2 (He.ga K "Form") "keeps" (sp_keeps K) [] := by
  refine metD S.clF S.me_keeps S.f_DF_keeps sc_F_keeps (fun _ _ _ _ _ _ us hl => match us, hl with | [_, _, _], _ => rfl) ?_ ?_
  · rintro vs H Q E ⟨_, _, _, _, _, _, _, rfl, _⟩
    rfl
  · rintro cdv A outer s H vs Q E hr ⟨o, a, l, N, R, r, ns, rfl, hF, ha, ok, ne, n5, hl, hn, q⟩
    refine ⟨_, pss_cons (ps_set (i := 3) sc_F_keeps.nd rfl (Or.inl rfl) (pe_op (op_catAC (K := K) rfl) (pe_tup (pa_cons pe_int pa_nil)) (pv 2)))
      (pss_cons (ps_asg (C8.pe_mt (m_ends_of (K := K) S) hr (by decide) (pv 0) (pa_cons (pv 1) (pa_cons pe_int pa_nil))) (pg_tupC (K := K) rfl rfl (pgs_cons (pg_name (i := 4) sc_F_keeps.nd rfl (Or.inl rfl)) (pgs_cons (pg_name (i := 5) sc_F_keeps.nd rfl (Or.inl rfl)) (pgs_cons (pg_name (i := 6) sc_F_keeps.nd rfl (Or.inl rfl)) pgs_nil)))))
      (pss_one (ps_ret (pe_cmpR op_le (pe_op op_sub (pe_ix (ix_tupC (K := K) rfl) (pv 3) (pv 4) (fun _ _ => rfl)) (pe_ix (ix_tupC (K := K) rfl) (pv 3) (pv 5) (fun _ _ => rfl))) (pv 6) (nomark _))))), ?_⟩
    walk_at "go"
    refine ⟨szc rfl, fun p hp => ?_⟩
    have s1 : Same H (upd H p (.tup [.int 0])) := same_new hp
    walk_at "go"
    refine rd_catT upd_same (s1 _ _ hl) (sz (by rw [List.length_map]; show 1 + ns.length ≤ 1000; omega)) fun p2 H2 s2 e2 => ?_
    have s12 := Same.trans s1 s2
    have hF2 := hF.same s12
    walk_at "go"
    refine hF2.me1 ?_
    walk_at "go"
    refine ⟨o, a, N, R, r, rfl, hF2, s12 _ _ ha, ok, ne, fun H5 p5 s5 e5 => ?_⟩
    unfold endsV at e5
    walk_at "go"
    have e25 := s5 _ _ e2
    refine rd_ixT e25 (cell_at (hn ▸ posN_lt ok.hi)) ?_
    walk_at "go"
    refine rd_ixT e25 (cell_at (hn ▸ posN_lt ok.lo)) ?_
    walk_at "go"
    exact q _ (Same.trans s12 s5)
abbrev N_F_broken : List Str := ["self", "filling", "index", "rule"]
theorem sc_F_broken : FnScope N_F_broken ["self", "filling"] (defScope sF_broken) := ⟨rfl, rfl, rfl, by decide +kernel, rfl, by decide +kernel, by decide +kernel⟩
def sp_broken (K : Frag) : Sp := fun vs H Q _ => ∃ o l, ∃ N : List Str, ∃ R, ∃ ns : List Int, vs = [.ref o, .ref l] ∧ FormP K H o N R ∧ FormOk N R ∧ H l = some (.tup (ns.map V.int)) ∧ ns.length = N.length ∧ ∀ H' p, ∀ is : List Int, Same H H' → H' p = some (.tup (is.map V.int)) → is.isEmpty = R.all (keepsB N ns) → Q (.ref p) H'
theorem m_broken (S : Sys K mg) : C8.Met P w K mg base 3 (He.ga K "Form") "broken" (sp_broken K) [] := by
  refine metD S.clF S.me_broken S.f_DF_broken sc_F_broken (fun _ _ _ _ _ _ us hl => match us, hl with | [_, _], _ => rfl) ?_ ?_
  · rintro vs H Q E ⟨_, _, _, _, _, rfl, _⟩
    rfl
  · rintro cdv A outer s H vs Q E hr ⟨o, l, N, R, ns, rfl, hF, ok, hl, hn, q⟩
    refine ⟨_, pss_one (ps_ret (pe_callTy (call_tuple_ofC (K := K) rfl) (by rfl) S.n_tuple (by decide +kernel) (pa_cons (pe_lc (own := [("index", 2), ("rule", 3)]) (g := gTup K 2 (gCons (gName 2) (gCons (gName 3) gNil))) rfl sc_F_broken.nd (pi_enumT (by rfl) S.n_enumerate (pa_cons (pe_fldC (K := K) rfl (pv 0) rfl) pa_nil)) (blkOk_by (N := N_F_broken) (sc := defScope sF_broken) (by decide +kernel)) (fun _ _ _ _ _ => (pg_tupC (K := K) rfl rfl (pgs_cons (pg_name (i := 2) sc_F_broken.nd rfl (Or.inl rfl)) (pgs_cons (pg_name (i := 3) sc_F_broken.nd rfl (Or.inl rfl)) pgs_nil)))) (fun _ _ _ _ _ => pts_one (pt_not (pt_val (C8.pe_mt (m_keeps (K := K) S) hr (by decide) (pv 0) (pa_cons (pv 3) (pa_cons (pv 1) pa_nil)))))) (fun _ _ _ _ _ => (pv 2))) pa_nil))), ?_⟩
    obtain ⟨pr, as, h9, h10, fld⟩ := hF.rls S
    walk_at "go"
    refine fld (Same.refl _) ?_
    walk_at "go"
    have ll : (as.map V.ref).length = R.length := by rw [List.length_map, h10.1]
    refine lcW (n := R.length) (G := fun H => SqT K H pr (as.map V.ref)) (Y := YPair (fun i => some (.int (i : Nat))) (fun i => (as.map V.ref)[i]?)) (ll ▸ walk_enumT) (fun j acc _ => ∃ is : List Int, acc = is.map V.int ∧ is.isEmpty = (R.take j).all (keepsB N ns)) (fun _ _ _ _ _ h => h) ⟨[], rfl, rfl⟩ (by have := ok.r9; omega) (fun H1 s => .inl (.inl (s _ _ h9))) (fun j x acc H1 H1' hj s f _ hY Qy Qn hQ hN => ?_) fun L H1 acc hL s e f _ => ?_
    · obtain ⟨T, y1, y2, rfl, hT, rfl, z1, z2⟩ := hY
      cases z1
      obtain ⟨b, r, rfl, hb, hrr, hat⟩ := h10.get z2
      obtain ⟨is, rfl, f⟩ := f
      have s1 : Same H1 (upd H1 T (.tup [.int (j : Nat), .ref b])) := same_new hT
      have e1 : upd H1 T (.tup [.int (j : Nat), .ref b]) T = some (.tup [.int (j : Nat), .ref b]) := upd_same
      generalize upd H1 T (.tup [.int (j : Nat), .ref b]) = H2 at s1 e1
      have s2 := Same.trans s s1
      have tk : R.take (j + 1) = R.take j ++ [r] := by
        rw [List.take_add_one, hrr] <;> rfl
      walk_at "go"
      refine (hF.same s2).me2 ?_
      walk_at "go"
      refine ⟨o, b, l, N, R, r, ns, rfl, hF.same s2, s2 _ _ hat, ok.rl r (List.mem_of_getElem? hrr), ok.ne, ok.n5, s2 _ _ hl, hn, fun H3 s3 => ?_⟩
      walk_at "go"
      refine ifb (fun h => ?_) fun h => ?_
      · walk_at "go"
        refine hQ _ _ (Same.trans s1 s3) ⟨is ++ [(j : Int)], by rw [List.map_append] <;> rfl, ?_⟩
        rw [tk, List.all_append]
        have hk : keepsB N ns r = false := by simpa using h
        show (is ++ [(j : Int)]).isEmpty = ((R.take j).all (keepsB N ns) && (keepsB N ns r && true))
        rw [hk, Bool.false_and, Bool.and_false]
        cases is <;> rfl
      · refine hN _ (Same.trans s1 s3) ⟨is, rfl, ?_⟩
        rw [tk, List.all_append]
        have hk : keepsB N ns r = true := by simpa using h
        show is.isEmpty = ((R.take j).all (keepsB N ns) && (keepsB N ns r && true))
        rw [hk, f, Bool.true_and, Bool.and_true]
    · obtain ⟨is, rfl, f⟩ := f
      rw [List.take_length] at f
      walk_at "go"
      exact fun p hp => q _ p is (same_new2 s hp) upd_same f
end
end K59
/-! K59LenO -/
set_option Elab.async false
set_option linter.all false
set_option maxRecDepth 100000
set_option maxHeartbeats 4000000
namespace K59
open PySem PySem.W PySem.Calls PySem.Spec PyProof.Rows L2
/-! ### len(o) by the class's own __len__ -/
section
variable {X : Cx} {k j : Nat} {C : Addr} {sp : Sp}
def rLenO (C : Addr) (sp : Sp) : List V → Hp → VK → Prop := fun xs H Q => ∃ a dx fs, xs = [.ref a] ∧ H a = some (.ins C dx fs) ∧ sp [.ref a] H (fun v H' => ∃ n : Int, v = .int n ∧ 0 ≤ n ∧ n < 2 ^ 63 ∧ Q (.int n) H') C8.E0
theorem call_lenO (c : C8.Met X.prog X.w X.K X.mg X.base k C "__len__" sp []) (hr : Room j X.A) (hk : k + 1 ≤ j) : CallR X (.builtin "len") (rLenO C sp) := by
  intro pins s σ H xs us Q I r h
  obtain ⟨a, dx, fs, rfl, ha, hsp⟩ := h
  obtain ⟨f, fd, ps, ds, hc, hm, F, b, d⟩ := c.ex
  obtain ⟨u, rfl, rx⟩ := L2.vals1 r
  cases rx
  cases d
  obtain ⟨mA, J, _⟩ := ins_get I.hok ha
  obtain ⟨od, J, _⟩ := J.look
  obtain ⟨m, hF⟩ := I.fr
  refine PySem.W.len_K hF I.ok.mod.kin J hm.at_ hm.fn ?_
  have e0 : Env0 X.prog X.w X.K X.mg X.base X.A.in1 X.stack s H := by
    have e := I.env0
    exact ⟨e.frames, e.mod, e.bs, e.bsz, e.funs, e.frf, e.hok, e.bare⟩
  have hl := F.len _ _ _ _ hsp
  have r2 : Vals [V.ref a] [Value.ref a] := .cons rfl .nil
  refine wpAny_call (codeAny_mono (F.run X.A.in1 X.stack s H ⟨[.ref a], []⟩ [.ref a] [.ref a] _ C8.E0 (hr.mono hk).in1 e0 (by
    have := b s [.ref a] I.kIn (by simpa using hl)
    simpa using this) r2 hsp) fun r s' hq => ?_)
  cases r with
  | error e => exact C8.pass0 (E := C8.E0) pins σ H s e s' I hq
  | ok fl =>
    cases fl with
    | ret w =>
      obtain ⟨z, H', I', rz, n, ez, h0, h1, q⟩ := I.after hq
      subst ez
      obtain ⟨t, rfl⟩ := rz
      exact ⟨⟨h0, h1⟩, .int n, H', I'.tok _, ⟨_, rfl⟩, q⟩
    | next => exact False.elim hq
    | brk => exact False.elim hq
    | cont => exact False.elim hq
end
end K59
/-! K59P8 -/
set_option Elab.async false
set_option linter.all false
set_option maxRecDepth 100000
set_option maxHeartbeats 4000000
namespace K59
open PySem PySem.W PySem.Calls PySem.Spec PyProof.Rows L2
local macro_rules | `(tactic| walk_at "hp") => `(tactic| first
  | assumption
  | exact upd_same
  | (refine same_new (by assumption) _ _ ?_; walk_at "hp")
  | (refine (by assumption : Same _ _) _ _ ?_; walk_at "hp")
  | (refine FK.tk (by assumption) (by assumption) _ _ ?_; walk_at "hp"))
local macro_rules | `(tactic| walk_at "sq") => `(tactic| first
  | assumption
  | exact FrzT.sq (by assumption)
  | (refine sqt_new (by assumption) ?_; walk_at "sq")
  | (refine sqt_same ?_ (by assumption); walk_at "sq"))
local macro_rules | `(tactic| walk_at "fz") => `(tactic| first
  | assumption
  | (refine frz_new (by assumption) ?_; walk_at "fz")
  | (refine FrzT.same ?_ (by assumption); walk_at "fz"))
local macro_rules | `(tactic| walk_at "ic") => `(tactic| first
  | ((with_reducible show (0 : Int) < _); decide)
  | exact Or.inl ⟨by decide, by decide⟩
  | exact Or.inr ⟨by decide, by decide⟩
  | exact (show (0 : Int) < _ ∧ _ < (1073741824 : Int) from ⟨by decide, by decide⟩)
  | exact (show (0 : Int) ≤ _ ∧ _ ≤ (1000000 : Int) ∧ Int.natAbs _ < 2 ^ 64 from ⟨by decide, by decide, by decide⟩)
  | exact (⟨by decide, by decide, by decide⟩ : _ ∧ _ ∧ _))
local macro_rules | `(tactic| walk_at "st") => `(tactic| first
  | with_reducible refine rd_var rfl ?_
  | with_reducible refine rd_c ?_
  | with_reducible refine rd_cons ?_
  | with_reducible refine rd_nil ?_
  | with_reducible refine rd_op ?_
  | with_reducible refine rd_cb ?_
  | with_reducible refine rd_call ?_
  | with_reducible refine rd_test ?_
  | with_reducible refine rd_B ?_
  | with_reducible refine rd_bl ?_
  | with_reducible refine rd_un ?_
  | with_reducible refine rd_and ?_
  | with_reducible refine rd_or ?_
  | with_reducible refine rd_not ?_
  | with_reducible refine rd_andV ?_
  | with_reducible refine rd_orV ?_
  | with_reducible refine rd_notV ?_
  | with_reducible refine rd_if ?_
  | with_reducible refine rd_chain ?_
  | with_reducible refine rd_I0 ?_
  | with_reducible refine rd_U ?_
  | with_reducible refine rd_eqI ?_
  | with_reducible refine rd_neI ?_
  | with_reducible refine rd_eqS ?_
  | with_reducible refine rd_neS ?_
  | with_reducible refine rd_nn ?_
  | with_reducible refine rd_asg ?_
  | with_reducible refine rd_gname ?_
  | with_reducible refine rd_seq ?_
  | with_reducible refine rd_ifS ?_
  | with_reducible refine rd_ret ?_
  | with_reducible refine rd_next ?_
  | with_reducible refine rd_cont ?_
  | with_reducible refine rd_drop ?_
  | with_reducible refine rd_par ?_
  | with_reducible refine rd_vs2 ?_
  | with_reducible refine rd_gsub ?_
  | with_reducible refine rd_gcons ?_
  | with_reducible refine rd_gnil ?_
  | with_reducible refine rd_tup ?_
  | with_reducible refine rd_lst ?_
  | with_reducible refine rd_sl ?_
  | with_reducible refine rd_part ?_
  | with_reducible refine rd_nopart ?_
  | with_reducible refine rd_i1 ?_
  | with_reducible refine rd_bm ?_
  | with_reducible refine rd_yes ?_
  | with_reducible refine rd_lcT ?_
  | with_reducible refine rd_lcL ?_
  | with_reducible refine rd_lcR1 ?_
  | with_reducible refine rd_lcS ?_
  | with_reducible refine rd_forT ?_
  | with_reducible refine rd_forL ?_
  | with_reducible refine rd_forR1 ?_
  | with_reducible refine rd_atS ?_
  | with_reducible refine rd_forEn ?_
  | with_reducible refine rd_dget ?_
  | with_reducible refine rd_din ?_
  | with_reducible refine rd_dget2 ?_
  | with_reducible refine rd_dput ?_
  | with_reducible refine rd_disp ?_
  | with_reducible refine rd_pcons ?_
  | with_reducible refine rd_pnil ?_
  | with_reducible refine rd_dcL ?_
  | with_reducible refine rd_lcEn ?_
  | with_reducible refine rd_yS ?_
  | with_reducible refine rd_m1 ?_
  | with_reducible refine rd_meth ?_
  | with_reducible refine rd_fld ?_
  | with_reducible refine rd_sfld ?_
  | with_reducible refine rd_make ?_
  | with_reducible refine rd_fmt ?_
  | with_reducible refine rd_js ?_
  | with_reducible refine rd_js0 ?_
  | with_reducible refine iteT ?_
  | with_reducible refine iteF ?_
  | ((with_reducible refine isi_int (d := ?d1) (N := ?n1) ?h1 ?_); (case h1 => assumption))
  | ((with_reducible refine isi_bool (d := ?d1) (N := ?n1) ?h1 ?_); (case h1 => assumption))
  | ((with_reducible refine isi_str (d := ?d1) (N := ?n1) ?h1 ?_); (case h1 => assumption))
  | ((with_reducible refine isi_tuple (d := ?d1) (N := ?n1) ?h1 ?_); (case h1 => assumption))
  | with_reducible refine isi_str (N := fun _ => True) (Da.str _) ?_
  | with_reducible refine isi_int (N := fun _ => True) (Da.int _) ?_
  | with_reducible refine isi_bool (N := fun _ => True) (Da.int _) ?_
  | with_reducible refine isi_str (N := fun _ => True) (Da.int _) ?_
  | ((with_reducible show (wipe _ _ = wipe _ _) ∧ _); refine ⟨rfl, ?_⟩)
  | ((with_reducible show Ends.nx _ _ _); dsimp only)
  | ((with_reducible show Ends.rt _ _ _); dsimp only)
  | ((with_reducible show Ends.ct _ _ _); dsimp only)
  | ((with_reducible refine rd_ixT (xs := ?x1) (v := ?v1) ?h1 ?e1 ?_); (case h1 => walk_at "hp"); (case e1 => rfl))
  | ((with_reducible refine rd_ixL (xs := ?x1) (v := ?v1) ?h1 ?e1 ?_); (case h1 => walk_at "hp"); (case e1 => rfl))
  | ((with_reducible refine rd_lenT (xs := ?x1) ?h1 ?_); (case h1 => walk_at "hp"))
  | ((with_reducible refine rd_lenL (xs := ?x1) ?h1 ?_); (case h1 => walk_at "hp"))
  | ((with_reducible refine rd_tupOf (xs := ?x1) ?h1 ?_); (case h1 => walk_at "hp"))
  | ((with_reducible refine rd_all (bs := ?x1) ?h1 ?_); (case h1 => walk_at "hp"))
  | ((with_reducible refine rd_atT (xs := ?x1) ?h1 ?_); (case h1 => walk_at "hp"))
  | ((with_reducible refine rd_atL (xs := ?x1) ?h1 ?_); (case h1 => walk_at "hp"))
  | ((with_reducible refine rd_gtup (xs := ?x1) ?h1 ?e1 ?_); (case h1 => walk_at "hp"); (case e1 => rfl))
  | ((with_reducible refine rd_atEn (xs := ?x1) ?h1 ?_); (case h1 => walk_at "hp"))
  | ((with_reducible refine rd_slT (xs := ?x1) ?h1 ?_); (case h1 => walk_at "hp"))
  | ((with_reducible refine rd_slL (xs := ?x1) ?h1 ?_); (case h1 => walk_at "hp"))
  | ((with_reducible refine rd_inN (N := ?x1) ?h1 ?_); (case h1 => walk_at "hp"))
  | ((with_reducible refine rd_inL (N := ?x1) ?h1 ?_); (case h1 => walk_at "hp"))
  | ((with_reducible refine rd_notInN (N := ?x1) ?h1 ?_); (case h1 => walk_at "hp"))
  | ((with_reducible refine rd_notInL (N := ?x1) ?h1 ?_); (case h1 => walk_at "hp"))
  | with_reducible refine rd_tm ?_
  | ((with_reducible refine rd_isF (xs := ?x1) ?h1 ?_); (case h1 => walk_at "fz"))
  | ((with_reducible refine rd_lenTq (xs := ?x1) ?h1 ?_); (case h1 => walk_at "sq"))
  | ((with_reducible refine rd_atTq (xs := ?x1) ?h1 ?_); (case h1 => walk_at "sq"))
  | ((with_reducible refine rd_atEnq (xs := ?x1) ?h1 ?_); (case h1 => walk_at "sq"))
  | ((with_reducible refine rd_slTq (xs := ?x1) ?h1 ?_); (case h1 => walk_at "sq"))
  | ((with_reducible refine rd_inNq (N := ?x1) ?h1 ?_); (case h1 => walk_at "sq"))
  | ((with_reducible refine rd_setL (xs := ?x1) (j := ?j1) ?h1 ?e1 ?_); (case h1 => walk_at "hp"); (case e1 => rfl))
  | with_reducible refine rd_int1 ?_
  | with_reducible refine rd_x1 ?_
  | with_reducible refine rd_x2 ?_
  | ((with_reducible refine rd_tyL (xs := ?x1) ?h1 ?_); (case h1 => walk_at "hp"))
  | ((with_reducible refine rd_ixsL (xs := ?x1) (v := ?v1) ?h1 ?e1 ?_); (case h1 => walk_at "hp"); (case e1 => rfl))
  | ((with_reducible refine rd_ixsT (xs := ?x1) (v := ?v1) ?h1 ?e1 ?_); (case h1 => walk_at "hp"); (case e1 => rfl))
  | ((with_reducible refine rd_I ?c1 ?_); (case c1 => walk_at "ic"))
  | ((with_reducible refine if_t ?hb1 ?_); (case hb1 => rfl))
  | ((with_reducible refine if_f ?hb1 ?_); (case hb1 => rfl)))
local macro_rules | `(tactic| walk_at "go") => `(tactic| repeat (first | walk_at "st" | dsimp only))
section
variable {P : Program} {w : World} {K : Frag} {mg : Str → Option Value} {base : Heap}

abbrev N_F_len : List Str := ["self"]
theorem sc_F_len : FnScope N_F_len ["self"] (defScope sF_len) := ⟨rfl, rfl, rfl, by decide +kernel, rfl, by decide +kernel, by decide +kernel⟩
def sp_len (K : Frag) : Sp := fun vs H Q _ => ∃ o, ∃ N : List Str, ∃ R, vs = [.ref o] ∧ FormP K H o N R ∧ Q (.int R.length) H
theorem m_len (S : Sys K mg) : C8.Met P w K mg base 1 (He.ga K "Form") "__len__" (sp_len K) [] := by
  refine metD S.clF S.me___len__ S.f_DF_len sc_F_len (fun _ _ _ _ _ _ us hl => match us, hl with | [_], _ => rfl) ?_ ?_
  · rintro vs H Q E ⟨_, _, _, rfl, _⟩
    rfl
  · rintro cdv A outer s H vs Q E hr ⟨o, N, R, rfl, hF, q⟩
    refine ⟨_, pss_one (ps_ret (pe_callB (call_len_seqC (K := K) rfl) (by rfl) S.n_len (by decide +kernel) (pa_cons (pe_fldC (K := K) rfl (pv 0) rfl) pa_nil))), ?_⟩
    obtain ⟨pr, as, h9, h10, fld⟩ := hF.rls S
    walk_at "go"
    refine fld (Same.refl _) ?_
    walk_at "go"
    rw [List.length_map, h10.1]
    exact q
abbrev N_F_init : List Str := ["self", "fields", "rules", "wrong"]
theorem sc_F_init : FnScope N_F_init ["self", "fields", "rules"] (defScope sF_init) := ⟨rfl, rfl, rfl, by decide +kernel, rfl, by decide +kernel, by decide +kernel⟩
def sp_init (K : Frag) : Sp := fun vs H Q _ => ∃ o dx pf pr, ∃ as : List Addr, ∃ N : List Str, ∃ R, vs = [.ref o, .ref pf, .ref pr] ∧ H o = some (.ins (He.ga K "Form") dx []) ∧ FrzT H pf (N.map V.str) ∧ H pr = some (.tup (as.map V.ref)) ∧ RlsAt H as R ∧ FormOk N R ∧
  ∀ H', Kp o H H' → FormP K H' o N R → Q .non H'
theorem isi_tupA {H : Hp} {a : Addr} {xs : List V} {Q : VK} (h : H a = some (.tup xs)) (q : Q (.bl true) H) : rIsi K [.ref a, .ty "tuple"] H Q := ⟨.ref a, .ty "tuple", .type "tuple", .type "tuple", true, rfl, .ty "tuple", .base (.tup h), kit_ty (show kitB "tuple" "tuple" = some true by decide +kernel), q⟩
theorem FrzT.kp {H H' : Hp} {p o : Addr} {xs : List V} (h : FrzT H p xs) (k : Kp o H H') (ne : p ≠ o) : FrzT H' p xs := let ⟨ob, a, b, e⟩ := h; ⟨ob, a, b, k _ _ e ne⟩
theorem RlsAt.kp {H H' : Hp} {o : Addr} {as : List Addr} {R : List Rl} (h : RlsAt H as R) (k : Kp o H H') (ne : ∀ xs, H o ≠ some (.tup xs)) : RlsAt H' as R :=
  ⟨h.1, fun i a r e1 e2 => k _ _ (h.2 i a r e1 e2) fun z => ne _ (z ▸ h.2 i a r e1 e2)⟩
theorem k_Form (S : Sys K mg) : C8.Mak P w K mg base 6 "Form" (He.ga K "Form") (sp_init K) [] := by
  obtain ⟨fd, F⟩ := S.f_DF_init
  obtain ⟨ds, d, b⟩ := F.binds1 (ps := ["self", "fields", "rules"]) 3 1 (List.cons_ne_nil _ _) rfl (fun T kV doc pm an cdv ct us its h1 h2 => by
    match us, its, h1, h2 with
    | [a, b, c], [d], _, _ => exact ⟨_, rfl, rfl⟩)
  refine ⟨_, fd, ["self", "fields", "rules"], ds, S.mkF, fnD F sc_F_init ?_ ?_, S.g_Form, b, d⟩
  · rintro vs H Q E ⟨_, _, _, _, _, _, _, rfl, _⟩
    rfl
  · rintro cdv A outer s H vs Q E hr ⟨o, dx, pf, pr, as, N, R, rfl, ho, hf, hp, ra, ok, q⟩
    refine ⟨_, pss_cons (ps_expr (C8.pe_c (c_check_fields (K := K) S) hr (by decide) rfl (pa_cons (pv 1) pa_nil)))
      (pss_cons (ps_if (pt_not (pt_val (pe_callB (call_isiC (K := K) rfl) (by rfl) S.n_isinstance (by decide +kernel) (pa_cons (pv 2) (pa_cons (pe_bltn (v := .ty "tuple") (by rfl) S.n_tuple (by decide +kernel) rfl) pa_nil))))) (pss_one ps_never) pss_nil)
      (pss_cons (ps_set (i := 3) sc_F_init.nd rfl (Or.inl rfl) (C8.pe_c (c_wrong_rule (K := K) S) hr (by decide) rfl (pa_cons (pv 2) (pa_cons (pv 1) pa_nil))))
      (pss_cons (ps_if (pt_cmpR op_notN (pv 3) pe_non (nomark _)) (pss_one ps_never) pss_nil)
      (pss_cons (ps_fld (pv 0) (pv 1) rfl)
      (pss_cons (ps_fld (pv 0) (pv 2) rfl)
      (pss_one (ps_fld (pv 0) (C8.pe_c (c_closed (K := K) S) hr (by decide) rfl (pa_cons (C8.pe_mt (m_own_table (K := K) S) hr (by decide) (pv 0) (pa_cons pe_int (pa_cons pe_int (pa_cons (pe_op op_add pe_int (pe_callB (call_len_seqC (K := K) rfl) (by rfl) S.n_len (by decide +kernel) (pa_cons (pv 1) pa_nil))) pa_nil)))) pa_nil)) rfl))))))), ?_⟩
    walk_at "go"
    refine ⟨pf, N, rfl, hf.sq, ok.n1, ok.n5, ok.nd, ok.mn, fun H1 s1 => ?_⟩
    walk_at "go"
    refine isi_tupA (s1 _ _ hp) ?_
    walk_at "go"
    refine ⟨pr, pf, as, N, R, rfl, s1 _ _ hp, (hf.same s1).sq, ra.tk (Same.tk s1), ok.rl, ok.r9, fun H2 s2 => ?_⟩
    have s12 := Same.trans s1 s2
    walk_at "go"
    refine ⟨o, _, dx, [], rfl, s12 _ _ ho, S.clF, S.no_fields, Nat.le_of_ble_eq_true rfl, ?_⟩
    have k1 : Kp o H (upd H2 o (.ins (He.ga K "Form") dx (putF "fields" (.ref pf) []))) := Kp.trans (Same.kp s12) (kp_upd _)
    have e1 : upd H2 o (.ins (He.ga K "Form") dx (putF "fields" (.ref pf) [])) o = some (.ins (He.ga K "Form") dx (putF "fields" (.ref pf) [])) := upd_same
    generalize upd H2 o (.ins (He.ga K "Form") dx (putF "fields" (.ref pf) [])) = H3 at k1 e1
    walk_at "go"
    refine ⟨o, _, dx, _, rfl, e1, S.clF, S.no_rules, Nat.le_of_ble_eq_true rfl, ?_⟩
    have k2 : Kp o H (upd H3 o (.ins (He.ga K "Form") dx (putF "rules" (.ref pr) (putF "fields" (.ref pf) [])))) := Kp.trans k1 (kp_upd _)
    have e2 : upd H3 o (.ins (He.ga K "Form") dx (putF "rules" (.ref pr) (putF "fields" (.ref pf) []))) o = some (.ins (He.ga K "Form") dx (putF "rules" (.ref pr) (putF "fields" (.ref pf) []))) := upd_same
    generalize upd H3 o (.ins (He.ga K "Form") dx (putF "rules" (.ref pr) (putF "fields" (.ref pf) []))) = H4 at k2 e2
    have no : ∀ xs, H o ≠ some (.tup xs) := fun xs z => by
      rw [ho] at z
      cases z
    have npf : pf ≠ o := fun z => by
      obtain ⟨_, _, _, e⟩ := hf
      rw [z, ho] at e
      cases e
    have npr : pr ≠ o := fun z => no _ (z ▸ hp)
    have form : ∀ H5 fs, Kp o H H5 → H5 o = some (.ins (He.ga K "Form") dx fs) → fs.lookup ("fields" : Str) = some (.ref pf) → fs.lookup ("rules" : Str) = some (.ref pr) → fs.lookup ("ends_of" : Str) = none → fs.lookup ("keeps" : Str) = none → fs.lookup ("broken" : Str) = none → fs.lookup ("own_table" : Str) = none → FormP K H5 o N R :=
      fun H5 fs k e l1 l2 l3 l4 l5 l6 => ⟨dx, fs, pf, pr, as, e, l1, l2, l3, l4, l5, l6, hf.kp k npf, k _ _ hp npr, ra.kp k no⟩
    have F4 := form H4 _ k2 e2 rfl rfl rfl rfl rfl rfl
    walk_at "go"
    refine F4.me4 ?_
    walk_at "go"
    refine rd_lenTq (hf.kp k2 npf).sq ?_
    walk_at "go"
    refine ⟨o, N, R, _, rfl, by rw [List.length_map]; omega, F4, ok, fun H5 t s5 M5 => ?_⟩
    walk_at "go"
    refine ⟨H4, N.length + 1, t, rfl, by have := ok.n5; omega, M5, fun H6 t6 s6 => ?_⟩
    walk_at "go"
    refine ⟨o, _, dx, _, rfl, s6 _ _ (s5 _ _ e2), S.clF, S.no_table, Nat.le_of_ble_eq_true rfl, ?_⟩
    have k6 : Kp o H (upd H6 o (.ins (He.ga K "Form") dx (putF "table" (.ref t6) (putF "rules" (.ref pr) (putF "fields" (.ref pf) []))))) := Kp.trans k2 (Kp.trans (Same.kp (Same.trans s5 s6)) (kp_upd _))
    exact q _ k6 (form _ _ k6 upd_same rfl rfl rfl rfl rfl rfl)
abbrev N_is_field : List Str := ["form", "value"]
theorem sc_is_field : FnScope N_is_field ["form", "value"] (defScope s_is_field) := ⟨rfl, rfl, rfl, by decide +kernel, rfl, by decide +kernel, by decide +kernel⟩
def fieldB (N : List Str) : PyData → Bool
  | .str z => decide (z ∈ N)
  | _ => false
def sp_is_field (K : Frag) : Sp := fun vs H Q _ => ∃ o v, ∃ N : List Str, ∃ R Nn d, vs = [.ref o, v] ∧ FormP K H o N R ∧ Da Nn H v d ∧ Q (.bl (fieldB N d)) H
theorem c_is_field (S : Sys K mg) : C8.Cal P w K mg base 1 "is_field" (sp_is_field K) [] := by
  refine calD S.f_D_is_field S.g_is_field sc_is_field (fun _ _ _ _ _ _ us hl => match us, hl with | [_, _], _ => rfl) ?_ ?_
  · rintro vs H Q E ⟨_, _, _, _, _, _, rfl, _⟩
    rfl
  · rintro cdv A outer s H vs Q E hr ⟨o, v, N, R, Nn, d, rfl, hF, hd, q⟩
    refine ⟨_, pss_one (ps_ret (pe_and (pe_callB (call_isiC (K := K) rfl) (by rfl) S.n_isinstance (by decide +kernel) (pa_cons (pv 1) (pa_cons (pe_bltn (v := .ty "str") (by rfl) S.n_str (by decide +kernel) rfl) pa_nil))) (pe_one (pe_cmpR (op_in_seqC (K := K) rfl) (pv 1) (pe_fldC (K := K) rfl (pv 0) rfl) rfl)))), ?_⟩
    obtain ⟨pf, hpf, fld⟩ := hF.fld S
    walk_at "go"
    refine ifb (fun h => ?_) fun h => ?_
    · cases d with
      | str z =>
        cases hd
        walk_at "go"
        refine fld (Same.refl _) ?_
        walk_at "go"
        exact q
      | _ => cases h
    · have e : fieldB N d = false := by cases d <;> first | rfl | cases h
      rw [e] at q
      exact q
abbrev N_is_good_filling : List Str := ["form", "value"]
theorem sc_is_good_filling : FnScope N_is_good_filling ["form", "value"] (defScope s_is_good_filling) := ⟨rfl, rfl, rfl, by decide +kernel, rfl, by decide +kernel, by decide +kernel⟩
def intOf : PyData → Int
  | .int i => i
  | _ => 0
def goodB (N : List Str) (R : List Rl) (d : PyData) : Bool := areVals N.length d && match d with
  | .tuple ds => R.all (keepsB N (ds.map intOf))
  | _ => false
theorem all_btw {lo hi : Int} : ∀ {ds : List PyData}, ds.all (btwD lo hi) = true → ds = (ds.map intOf).map PyData.int
  | [], _ => rfl
  | d :: ds, h => by
    rw [List.all_cons, Bool.and_eq_true] at h
    cases d with
    | int i => exact congrArg (fun z => PyData.int i :: z) (all_btw h.2)
    | _ => cases h.1
theorem DaAll.ofInts {Nn : Addr → Prop} {H : Hp} : ∀ {ns : List Int} {xs : List V}, DaAll Nn H xs (ns.map PyData.int) → xs = ns.map V.int
  | [], _, h => by
    cases h
    rfl
  | n :: ns, _, h => by
    cases h with
    | cons h a =>
      cases h
      rw [List.map_cons, DaAll.ofInts a]
def sp_is_good_filling (K : Frag) : Sp := fun vs H Q _ => ∃ o v, ∃ N : List Str, ∃ R Nn d, vs = [.ref o, v] ∧ FormP K H o N R ∧ FormOk N R ∧ Da Nn H v d ∧ (∀ ds, d = .tuple ds → ds.length ≤ 1000) ∧ ∀ H', Same H H' → Q (.bl (goodB N R d)) H'
theorem c_is_good_filling (S : Sys K mg) : C8.Cal P w K mg base 4 "is_good_filling" (sp_is_good_filling K) [] := by
  refine calD S.f_D_is_good_filling S.g_is_good_filling sc_is_good_filling (fun _ _ _ _ _ _ us hl => match us, hl with | [_, _], _ => rfl) ?_ ?_
  · rintro vs H Q E ⟨_, _, _, _, _, _, rfl, _⟩
    rfl
  · rintro cdv A outer s H vs Q E hr ⟨o, v, N, R, Nn, d, rfl, hF, ok, hd, hl, q⟩
    refine ⟨_, pss_one (ps_ret (pe_and (C8.pe_c (c_are_values (K := K) S) hr (by decide) rfl (pa_cons (pv 1) (pa_cons (pe_callB (call_len_seqC (K := K) rfl) (by rfl) S.n_len (by decide +kernel) (pa_cons (pe_fldC (K := K) rfl (pv 0) rfl) pa_nil)) pa_nil))) (pe_one (pe_cmpR (op_eqDC (K := K) rfl hr.units) (C8.pe_mt (m_broken (K := K) S) hr (by decide) (pv 0) (pa_cons (pv 1) pa_nil)) (pe_tup pa_nil) (nomark _))))), ?_⟩
    obtain ⟨pf, hpf, fld⟩ := hF.fld S
    walk_at "go"
    refine fld (Same.refl _) ?_
    walk_at "go"
    refine ⟨Nn, v, d, N.length, by rw [List.length_map] <;> rfl, hd, hl, fun H1 s1 => ?_⟩
    walk_at "go"
    refine ifb (fun h => ?_) fun h => ?_
    · cases d with
      | tuple ds =>
        have h2 : decide (ds.length = N.length) = true ∧ ds.all (btwD (-1000000000) 1000000000) = true := by
          have h3 : (decide (ds.length = N.length) && ds.all (btwD (-1000000000) 1000000000)) = true := h
          rwa [Bool.and_eq_true] at h3
        have hds := all_btw h2.2
        have hlen := of_decide_eq_true h2.1
        obtain ⟨a, xs, rfl, ha, hda⟩ := hd.tupInv
        rw [hds] at hda
        have hxs := hda.ofInts
        subst hxs
        walk_at "go"
        refine (hF.same s1).me3 ?_
        walk_at "go"
        refine ⟨o, a, N, R, ds.map intOf, rfl, hF.same s1, ok, s1 _ _ ha, by rw [List.length_map, hlen], fun H2 p is s2 e2 hi => ?_⟩
        walk_at "go"
        refine ⟨szc rfl, fun p2 hp2 => ?_⟩
        refine ⟨.tuple (is.map PyData.int), .tuple [], dp_tup (same_new hp2 _ _ e2) DaAll.ints, dp_tup upd_same .nil, shaped_tints, rfl, ?_⟩
        have e : PyData.eqv (.tuple (is.map PyData.int)) (.tuple []) = is.isEmpty := by cases is <;> rfl
        rw [e, hi]
        have e4 : goodB N R (.tuple ds) = R.all (keepsB N (ds.map intOf)) := by
          show (areVals N.length (.tuple ds) && _) = _
          rw [h, Bool.true_and]
        rw [← e4]
        exact q _ (Same.trans s1 (same_new2 s2 hp2))
      | _ => cases h
    · have e : goodB N R d = false := by
        unfold goodB
        rw [h, Bool.false_and]
      rw [e] at q
      exact q _ s1
end
end K59
/-! K59P9 -/
set_option Elab.async false
set_option linter.all false
set_option maxRecDepth 100000
set_option maxHeartbeats 4000000
namespace K59
open PySem PySem.W PySem.Calls PySem.Spec PyProof.Rows L2
local macro_rules | `(tactic| walk_at "hp") => `(tactic| first
  | assumption
  | exact upd_same
  | (refine same_new (by assumption) _ _ ?_; walk_at "hp")
  | (refine (by assumption : Same _ _) _ _ ?_; walk_at "hp")
  | (refine FK.tk (by assumption) (by assumption) _ _ ?_; walk_at "hp"))
local macro_rules | `(tactic| walk_at "sq") => `(tactic| first
  | assumption
  | exact FrzT.sq (by assumption)
  | (refine sqt_new (by assumption) ?_; walk_at "sq")
  | (refine sqt_same ?_ (by assumption); walk_at "sq"))
local macro_rules | `(tactic| walk_at "fz") => `(tactic| first
  | assumption
  | (refine frz_new (by assumption) ?_; walk_at "fz")
  | (refine FrzT.same ?_ (by assumption); walk_at "fz"))
local macro_rules | `(tactic| walk_at "ic") => `(tactic| first
  | ((with_reducible show (0 : Int) < _); decide)
  | exact Or.inl ⟨by decide, by decide⟩
  | exact Or.inr ⟨by decide, by decide⟩
  | exact (show (0 : Int) < _ ∧ _ < (1073741824 : Int) from ⟨by decide, by decide⟩)
  | exact (show (0 : Int) ≤ _ ∧ _ ≤ (1000000 : Int) ∧ Int.natAbs _ < 2 ^ 64 from ⟨by decide, by decide, by decide⟩)
  | exact (⟨by decide, by decide, by decide⟩ : _ ∧ _ ∧ _))
local macro_rules | `(tactic| walk_at "st") => `(tactic| first
  | with_reducible refine rd_var rfl ?_
  | with_reducible refine rd_c ?_
  | with_reducible refine rd_cons ?_
  | with_reducible refine rd_nil ?_
  | with_reducible refine rd_op ?_
  | with_reducible refine rd_cb ?_
  | with_reducible refine rd_call ?_
  | with_reducible refine rd_test ?_
  | with_reducible refine rd_B ?_
  | with_reducible refine rd_bl ?_
  | with_reducible refine rd_un ?_
  | with_reducible refine rd_and ?_
  | with_reducible refine rd_or ?_
  | with_reducible refine rd_not ?_
  | with_reducible refine rd_andV ?_
  | with_reducible refine rd_orV ?_
  | with_reducible refine rd_notV ?_
  | with_reducible refine rd_if ?_
  | with_reducible refine rd_chain ?_
  | with_reducible refine rd_I0 ?_
  | with_reducible refine rd_U ?_
  | with_reducible refine rd_eqI ?_
  | with_reducible refine rd_neI ?_
  | with_reducible refine rd_eqS ?_
  | with_reducible refine rd_neS ?_
  | with_reducible refine rd_nn ?_
  | with_reducible refine rd_asg ?_
  | with_reducible refine rd_gname ?_
  | with_reducible refine rd_seq ?_
  | with_reducible refine rd_ifS ?_
  | with_reducible refine rd_ret ?_
  | with_reducible refine rd_next ?_
  | with_reducible refine rd_cont ?_
  | with_reducible refine rd_drop ?_
  | with_reducible refine rd_par ?_
  | with_reducible refine rd_vs2 ?_
  | with_reducible refine rd_gsub ?_
  | with_reducible refine rd_gcons ?_
  | with_reducible refine rd_gnil ?_
  | with_reducible refine rd_tup ?_
  | with_reducible refine rd_lst ?_
  | with_reducible refine rd_sl ?_
  | with_reducible refine rd_part ?_
  | with_reducible refine rd_nopart ?_
  | with_reducible refine rd_i1 ?_
  | with_reducible refine rd_bm ?_
  | with_reducible refine rd_yes ?_
  | with_reducible refine rd_lcT ?_
  | with_reducible refine rd_lcL ?_
  | with_reducible refine rd_lcR1 ?_
  | with_reducible refine rd_lcS ?_
  | with_reducible refine rd_forT ?_
  | with_reducible refine rd_forL ?_
  | with_reducible refine rd_forR1 ?_
  | with_reducible refine rd_atS ?_
  | with_reducible refine rd_forEn ?_
  | with_reducible refine rd_dget ?_
  | with_reducible refine rd_din ?_
  | with_reducible refine rd_dget2 ?_
  | with_reducible refine rd_dput ?_
  | with_reducible refine rd_disp ?_
  | with_reducible refine rd_pcons ?_
  | with_reducible refine rd_pnil ?_
  | with_reducible refine rd_dcL ?_
  | with_reducible refine rd_lcEn ?_
  | with_reducible refine rd_yS ?_
  | with_reducible refine rd_m1 ?_
  | with_reducible refine rd_meth ?_
  | with_reducible refine rd_fld ?_
  | with_reducible refine rd_sfld ?_
  | with_reducible refine rd_make ?_
  | with_reducible refine rd_fmt ?_
  | with_reducible refine rd_js ?_
  | with_reducible refine rd_js0 ?_
  | with_reducible refine iteT ?_
  | with_reducible refine iteF ?_
  | ((with_reducible refine isi_int (d := ?d1) (N := ?n1) ?h1 ?_); (case h1 => assumption))
  | ((with_reducible refine isi_bool (d := ?d1) (N := ?n1) ?h1 ?_); (case h1 => assumption))
  | ((with_reducible refine isi_str (d := ?d1) (N := ?n1) ?h1 ?_); (case h1 => assumption))
  | ((with_reducible refine isi_tuple (d := ?d1) (N := ?n1) ?h1 ?_); (case h1 => assumption))
  | with_reducible refine isi_str (N := fun _ => True) (Da.str _) ?_
  | with_reducible refine isi_int (N := fun _ => True) (Da.int _) ?_
  | with_reducible refine isi_bool (N := fun _ => True) (Da.int _) ?_
  | with_reducible refine isi_str (N := fun _ => True) (Da.int _) ?_
  | ((with_reducible show (wipe _ _ = wipe _ _) ∧ _); refine ⟨rfl, ?_⟩)
  | ((with_reducible show Ends.nx _ _ _); dsimp only)
  | ((with_reducible show Ends.rt _ _ _); dsimp only)
  | ((with_reducible show Ends.ct _ _ _); dsimp only)
  | ((with_reducible refine rd_ixT (xs := ?x1) (v := ?v1) ?h1 ?e1 ?_); (case h1 => walk_at "hp"); (case e1 => rfl))
  | ((with_reducible refine rd_ixL (xs := ?x1) (v := ?v1) ?h1 ?e1 ?_); (case h1 => walk_at "hp"); (case e1 => rfl))
  | ((with_reducible refine rd_lenT (xs := ?x1) ?h1 ?_); (case h1 => walk_at "hp"))
  | ((with_reducible refine rd_lenL (xs := ?x1) ?h1 ?_); (case h1 => walk_at "hp"))
  | ((with_reducible refine rd_tupOf (xs := ?x1) ?h1 ?_); (case h1 => walk_at "hp"))
  | ((with_reducible refine rd_all (bs := ?x1) ?h1 ?_); (case h1 => walk_at "hp"))
  | ((with_reducible refine rd_atT (xs := ?x1) ?h1 ?_); (case h1 => walk_at "hp"))
  | ((with_reducible refine rd_atL (xs := ?x1) ?h1 ?_); (case h1 => walk_at "hp"))
  | ((with_reducible refine rd_gtup (xs := ?x1) ?h1 ?e1 ?_); (case h1 => walk_at "hp"); (case e1 => rfl))
  | ((with_reducible refine rd_atEn (xs := ?x1) ?h1 ?_); (case h1 => walk_at "hp"))
  | ((with_reducible refine rd_slT (xs := ?x1) ?h1 ?_); (case h1 => walk_at "hp"))
  | ((with_reducible refine rd_slL (xs := ?x1) ?h1 ?_); (case h1 => walk_at "hp"))
  | ((with_reducible refine rd_inN (N := ?x1) ?h1 ?_); (case h1 => walk_at "hp"))
  | ((with_reducible refine rd_inL (N := ?x1) ?h1 ?_); (case h1 => walk_at "hp"))
  | ((with_reducible refine rd_notInN (N := ?x1) ?h1 ?_); (case h1 => walk_at "hp"))
  | ((with_reducible refine rd_notInL (N := ?x1) ?h1 ?_); (case h1 => walk_at "hp"))
  | with_reducible refine rd_tm ?_
  | ((with_reducible refine rd_isF (xs := ?x1) ?h1 ?_); (case h1 => walk_at "fz"))
  | ((with_reducible refine rd_lenTq (xs := ?x1) ?h1 ?_); (case h1 => walk_at "sq"))
  | ((with_reducible refine rd_atTq (xs := ?x1) ?h1 ?_); (case h1 => walk_at "sq"))
  | ((with_reducible refine rd_atEnq (xs := ?x1) ?h1 ?_); (case h1 => walk_at "sq"))
  | ((with_reducible refine rd_slTq (xs := ?x1) ?h1 ?_); (case h1 => walk_at "sq"))
  | ((with_reducible refine rd_inNq (N := ?x1) ?h1 ?_); (case h1 => walk_at "sq"))
  | ((with_reducible refine rd_setL (xs := ?x1) (j := ?j1) ?h1 ?e1 ?_); (case h1 => walk_at "hp"); (case e1 => rfl))
  | with_reducible refine rd_int1 ?_
  | with_reducible refine rd_x1 ?_
  | with_reducible refine rd_x2 ?_
  | ((with_reducible refine rd_tyL (xs := ?x1) ?h1 ?_); (case h1 => walk_at "hp"))
  | ((with_reducible refine rd_ixsL (xs := ?x1) (v := ?v1) ?h1 ?e1 ?_); (case h1 => walk_at "hp"); (case e1 => rfl))
  | ((with_reducible refine rd_ixsT (xs := ?x1) (v := ?v1) ?h1 ?e1 ?_); (case h1 => walk_at "hp"); (case e1 => rfl))
  | ((with_reducible refine rd_I ?c1 ?_); (case c1 => walk_at "ic"))
  | ((with_reducible refine if_t ?hb1 ?_); (case hb1 => rfl))
  | ((with_reducible refine if_f ?hb1 ?_); (case hb1 => rfl)))
local macro_rules | `(tactic| walk_at "go") => `(tactic| repeat (first | walk_at "st" | dsimp only))
section
variable {P : Program} {w : World} {K : Frag} {mg : Str → Option Value} {base : Heap}

/-! ### objects that tell rules, one each -/
def PtAt (f : Rl → List V) (H : Hp) (as : List Addr) (R : List Rl) : Prop := as.length = R.length ∧ ∀ (i : Nat) (a : Addr) (r : Rl), as[i]? = some a → R[i]? = some r → H a = some (.tup (f r))
section
variable {f : Rl → List V} {H H' : Hp} {as : List Addr} {R : List Rl}
theorem PtAt.tk (h : PtAt f H as R) (t : TK H H') : PtAt f H' as R := ⟨h.1, fun i a r e1 e2 => t _ _ (h.2 i a r e1 e2)⟩
theorem PtAt.same (h : PtAt f H as R) (t : Same H H') : PtAt f H' as R := h.tk (Same.tk t)
theorem PtAt.nil : PtAt f H [] [] := ⟨rfl, fun i a r h _ => by simp at h⟩
theorem PtAt.snoc {a : Addr} {r : Rl} (h : PtAt f H as R) (e : H a = some (.tup (f r))) : PtAt f H (as ++ [a]) (R ++ [r]) := by
  refine ⟨by rw [List.length_append, List.length_append, h.1] <;> rfl, fun i b q e1 e2 => ?_⟩
  by_cases hi : i < as.length
  · rw [List.getElem?_append_left hi] at e1
    rw [List.getElem?_append_left (h.1 ▸ hi)] at e2
    exact h.2 i b q e1 e2
  · have hi2 : i = as.length := by
      have := (List.getElem?_eq_some_iff.mp e1).1
      rw [List.length_append, List.length_singleton] at this
      omega
    rw [hi2, List.getElem?_concat_length] at e1
    rw [hi2, h.1, List.getElem?_concat_length] at e2
    cases e1
    cases e2
    exact e
theorem PtAt.get {i : Nat} {v : V} (h : PtAt f H as R) (e : (as.map V.ref)[i]? = some v) : ∃ a r, v = .ref a ∧ as[i]? = some a ∧ R[i]? = some r ∧ H a = some (.tup (f r)) := by
  rw [List.getElem?_map] at e
  cases ha : as[i]? with
  | none =>
    rw [ha] at e
    cases e
  | some a =>
    rw [ha] at e
    cases e
    have hi : i < R.length := h.1 ▸ (List.getElem?_eq_some_iff.mp ha).1
    exact ⟨a, R[i], rfl, rfl, List.getElem?_eq_getElem hi, h.2 i a _ ha (List.getElem?_eq_getElem hi)⟩
/-- the k-th of them -/
theorem PtAt.nth {k : Nat} (h : PtAt f H as R) (hk : k < R.length) : ∃ a, (as.map V.ref)[k]? = some (.ref a) ∧ H a = some (.tup (f R[k])) := by
  have hk2 : k < as.length := h.1 ▸ hk
  refine ⟨as[k], ?_, h.2 k _ _ (List.getElem?_eq_getElem hk2) (List.getElem?_eq_getElem hk)⟩
  rw [List.getElem?_map, List.getElem?_eq_getElem hk2] <;> rfl
theorem PtAt.len (h : PtAt f H as R) : (as.map V.ref).length = R.length := by rw [List.length_map, h.1]
end
/-! ### rings of rules -/
def hiAt (rs : List Rl) (k : Nat) : Str := ((rs[k]?).map Rl.hi).getD eS
def loAt (rs : List Rl) (k : Nat) : Str := ((rs[k]?).map Rl.lo).getD eS
theorem hiAt_of {rs : List Rl} {k : Nat} (h : k < rs.length) : hiAt rs k = rs[k].hi := by
  unfold hiAt
  rw [List.getElem?_eq_getElem h] <;> rfl
theorem loAt_of {rs : List Rl} {k : Nat} (h : k < rs.length) : loAt rs k = rs[k].lo := by
  unfold loAt
  rw [List.getElem?_eq_getElem h] <;> rfl
def joinB (rs : List Rl) : Bool := (List.range (rs.length - 1)).all fun k => decide (hiAt rs k = loAt rs (k + 1))
def ringB (rs : List Rl) : Bool := decide (2 ≤ rs.length) && (joinB rs && (decide (hiAt rs (rs.length - 1) = loAt rs 0) && decide ((rs.map Rl.hi).Nodup)))
def rAt (R : List Rl) (d : PyData) : Rl := (R[(intOf d).toNat]?).getD (.most eS 0)
def spotsR (R : List Rl) : PyData → Option (List Rl)
  | .tuple ds => if ds.all (btwD 0 ((R.length : Int) - 1)) = true then some (ds.map (rAt R)) else none
  | _ => none
def ringD (R : List Rl) (d : PyData) : Option (List Rl) := match spotsR R d with
  | some rs => if ringB rs = true then some rs else none
  | none => none
def liesB (R : List Rl) (t : Str) (d : PyData) : Bool := match ringD R d with
  | some rs => decide ((rs.map Rl.bd).sum = 0) && decide (t ∈ rs.map Rl.hi)
  | none => false
def OptArcs (N : List Str) (H : Hp) (x : V) : Option (List Rl) → Prop
  | none => x = .non
  | some rs => ∃ l as, x = .ref l ∧ H l = some (.lst (as.map V.ref)) ∧ PtAt (endsV N) H as rs
theorem posN_inj {N : List Str} {x y : Str} (hx : x ∈ eS :: N) (hy : y ∈ eS :: N) (h : posN N x = posN N y) : x = y := by
  unfold posN at h
  by_cases ex : x = eS
  · by_cases ey : y = eS
    · rw [ex, ey]
    · rw [if_pos ex, if_neg ey] at h
      omega
  · by_cases ey : y = eS
    · rw [if_neg ex, if_pos ey] at h
      omega
    · rw [if_neg ex, if_neg ey] at h
      have h1 := (ixOf_get ((List.mem_cons.mp hx).elim (fun z => absurd z ex) id)).1
      have h2 := (ixOf_get ((List.mem_cons.mp hy).elim (fun z => absurd z ey) id)).1
      have e : ixOf x N = ixOf y N := by omega
      rw [e, h2] at h1
      exact (Option.some.inj h1).symm
theorem pos_dec {N : List Str} {x y : Str} (hx : x ∈ eS :: N) (hy : y ∈ eS :: N) : decide (((posN N x : Nat) : Int) = (posN N y : Nat)) = decide (x = y) := by
  by_cases h : x = y
  · rw [h, decide_eq_true rfl, decide_eq_true rfl]
  · rw [decide_eq_false h, decide_eq_false fun z => h (posN_inj hx hy (by omega))]
theorem rAt_mem {R : List Rl} {d : PyData} (h : btwD 0 ((R.length : Int) - 1) d = true) : ∃ i : Nat, d = .int i ∧ i < R.length ∧ R[i]? = some (rAt R d) ∧ rAt R d ∈ R := by
  cases d with
  | int i =>
    have h : (decide (0 ≤ i) && decide (i ≤ (R.length : Int) - 1)) = true := h
    rw [Bool.and_eq_true] at h
    have h1 := of_decide_eq_true h.1
    have h2 := of_decide_eq_true h.2
    have h3 : i.toNat < R.length := by omega
    have e : R[i.toNat]? = some (rAt R (.int i)) := by
      show _ = some ((R[i.toNat]?).getD _)
      rw [List.getElem?_eq_getElem h3] <;> rfl
    exact ⟨i.toNat, by rw [Int.toNat_of_nonneg h1], h3, e, List.mem_of_getElem? e⟩
  | _ => cases h
abbrev N_arcs_of : List Str := ["form", "value", "each"]
theorem sc_arcs_of : FnScope N_arcs_of ["form", "value"] (defScope s_arcs_of) := ⟨rfl, rfl, rfl, by decide +kernel, rfl, by decide +kernel, by decide +kernel⟩
def sp_arcs_of (K : Frag) : Sp := fun vs H Q _ => ∃ o v, ∃ N : List Str, ∃ R Nn d, vs = [.ref o, v] ∧ FormP K H o N R ∧ FormOk N R ∧ Da Nn H v d ∧ (∀ ds, d = .tuple ds → ds.length ≤ 1000) ∧ ∀ H' x, Same H H' → OptArcs N H' x (spotsR R d) → Q x H'
theorem c_arcs_of (S : Sys K mg) : C8.Cal P w K mg base 3 "arcs_of" (sp_arcs_of K) [] := by
  refine calD S.f_D_arcs_of S.g_arcs_of sc_arcs_of (fun _ _ _ _ _ _ us hl => match us, hl with | [_, _], _ => rfl) ?_ ?_
  · rintro vs H Q E ⟨_, _, _, _, _, _, rfl, _⟩
    rfl
  · rintro cdv A outer s H vs Q E hr ⟨o, v, N, R, Nn, d, rfl, hF, ok, hd, hl, q⟩
    refine ⟨_, pss_cons (ps_if (PW.pt (pw_or (pt_not (pt_val (pe_callB (call_isiC (K := K) rfl) (by rfl) S.n_isinstance (by decide +kernel) (pa_cons (pv 1) (pa_cons (pe_bltn (v := .ty "tuple") (by rfl) S.n_tuple (by decide +kernel) rfl) pa_nil))))) (pw_or1 (pt_not (pt_val (pe_callB (cr_allC (K := K) rfl rfl) (by rfl) S.n_all (by decide +kernel) (pa_cons (pe_lc (own := [("each", 2)]) (g := gName 2) (tt := tYes) rfl sc_arcs_of.nd (pi_tupC (K := K) rfl (pv 1)) (blkOk_by (N := N_arcs_of) (sc := defScope s_arcs_of) (by decide +kernel)) (fun _ _ _ _ _ => (pg_name (i := 2) sc_arcs_of.nd rfl (Or.inl rfl))) (fun _ _ _ _ _ => pts_nil) (fun _ _ _ _ _ => (C8.pe_c (c_is_between (K := K) S) hr (by decide) rfl (pa_cons (pv 2) (pa_cons pe_int (pa_cons (pe_op op_sub (pe_callB (call_lenO (m_len (K := K) S) hr (by decide)) (by rfl) S.n_len (by decide +kernel) (pa_cons (pv 0) pa_nil)) pe_int) pa_nil)))))) pa_nil))))))) (pss_one (ps_ret pe_non)) pss_nil)
      (pss_one (ps_ret (pe_lc (own := [("each", 2)]) (g := gName 2) (tt := tYes) rfl sc_arcs_of.nd (pi_tupC (K := K) rfl (pv 1)) (blkOk_by (N := N_arcs_of) (sc := defScope s_arcs_of) (by decide +kernel)) (fun _ _ _ _ _ => (pg_name (i := 2) sc_arcs_of.nd rfl (Or.inl rfl))) (fun _ _ _ _ _ => pts_nil) (fun _ _ _ _ _ => (C8.pe_mt (m_ends_of (K := K) S) hr (by decide) (pv 0) (pa_cons (pe_ix (ix_tupC (K := K) rfl) (pe_fldC (K := K) rfl (pv 0) rfl) (pv 2) (fun _ _ => rfl)) (pa_cons pe_int pa_nil))))))), ?_⟩
    walk_at "go"
    refine ifb (fun h => ?_) fun h => ?_
    · have e : spotsR R d = none := by cases d <;> first | rfl | cases h
      walk_at "go"
      exact q _ _ (Same.refl _) (by rw [e] <;> rfl)
    · cases d with
      | tuple ds =>
        obtain ⟨a, xs, rfl, ha, hda⟩ := hd.tupInv
        have hlen := hda.len
        have hl2 := hl ds rfl
        obtain ⟨pr, as, h9, h10, fld⟩ := hF.rls S
        walk_at "go"
        refine lcM walk_tup ((ds.map (btwD 0 ((R.length : Int) - 1))).map V.bl) (by simp [hlen]) (by omega) (fun H1 s => .inl (.inl (s _ _ ha))) (fun j x H1 H1' y hj s hY hy Qy Qn hQ => ?_) fun L H1 hL s e => ?_
        · obtain ⟨rfl, hx⟩ := hY
          obtain ⟨dx, h1, h2⟩ := hda.get hx
          rw [List.getElem?_map, List.getElem?_map, h1] at hy
          cases hy
          walk_at "go"
          have hF1 := hF.same s
          obtain ⟨dx', fs', _, _, _, ho, _⟩ := hF1.ex
          refine ⟨o, dx', fs', rfl, ho, o, N, R, rfl, hF1, _, rfl, by omega, by have := ok.r9; omega, ?_⟩
          walk_at "go"
          refine ⟨Nn, x, dx, _, _, rfl, h2.same s, ?_⟩
          walk_at "go"
          exact hQ _ (Same.refl _)
        · walk_at "go"
          have e2 : (ds.map (btwD 0 ((R.length : Int) - 1))).all id = ds.all (btwD 0 ((R.length : Int) - 1)) := by rw [List.all_map] <;> rfl
          rw [e2]
          refine ifb (fun h => ?_) fun h => ?_
          · walk_at "go"
            refine q _ _ s ?_
            show OptArcs N H1 .non (if _ then _ else none)
            have h' : ds.all (btwD 0 ((R.length : Int) - 1)) = false := by simpa using h
            rw [if_neg (by rw [h']; exact Bool.false_ne_true)] <;> rfl
          · have h' : ds.all (btwD 0 ((R.length : Int) - 1)) = true := by simpa using h
            have hsp : spotsR R (.tuple ds) = some (ds.map (rAt R)) := if_pos h'
            have hda1 := hda.same s
            have ha1 := s _ _ ha
            walk_at "go"
            refine lcW (n := xs.length) (Y := YAt xs) walk_tup (fun j acc H2 => ∃ bs : List Addr, acc = bs.map V.ref ∧ PtAt (endsV N) H2 bs ((ds.map (rAt R)).take j)) (fun _ _ _ _ t ⟨bs, a, b⟩ => ⟨bs, a, b.tk t⟩) ⟨[], rfl, PtAt.nil⟩ (by omega) (fun H2 s2 => .inl (.inl (s2 _ _ ha1))) (fun j x acc H2 H2' hj s2 f l hY Qy Qn hQ _ => ?_) fun L2 H2 acc hL2 s2 e3 f _ => ?_
            · obtain ⟨rfl, hx⟩ := hY
              obtain ⟨dx, h1, h2⟩ := hda1.get hx
              have hb : btwD 0 ((R.length : Int) - 1) dx = true := List.all_eq_true.mp h' dx (List.mem_of_getElem? h1)
              obtain ⟨i, rfl, hi, hri, hrm⟩ := rAt_mem hb
              cases h2
              have s02 := Same.trans s s2
              obtain ⟨bs, rfl, f⟩ := f
              walk_at "go"
              refine (hF.same s02).me1 ?_
              walk_at "go"
              refine fld s02 ?_
              walk_at "go"
              have hi2 : i < (as.map V.ref).length := by rw [List.length_map, h10.1]; exact hi
              obtain ⟨b, r, eb, hb1, hb2, hb3⟩ := h10.get (List.getElem?_eq_getElem hi2)
              rw [hri] at hb2
              cases hb2
              refine rd_ixT (s02 _ _ h9) (atI_nat (List.getElem?_eq_getElem hi2)) ?_
              rw [eb]
              walk_at "go"
              refine ⟨o, b, N, R, rAt R (.int i), rfl, hF.same s02, s02 _ _ hb3, ok.rl _ hrm, ok.ne, fun H3 p s3 e4 => ?_⟩
              refine hQ _ _ s3 ⟨bs ++ [p], by rw [List.map_append] <;> rfl, ?_⟩
              rw [List.take_add_one, List.getElem?_map, h1]
              exact (f.same s3).snoc e4
            · obtain ⟨bs, rfl, f⟩ := f
              rw [List.take_of_length_le (by rw [List.length_map]; omega)] at f
              refine q _ _ (Same.trans s s2) ?_
              rw [hsp]
              exact ⟨L2, bs, rfl, e3, f⟩
      | _ => cases h
end
end K59
/-! K59Dc -/
set_option Elab.async false
set_option linter.all false
set_option maxRecDepth 100000
set_option maxHeartbeats 4000000
namespace K59
open PySem PySem.W PySem.Calls PySem.Spec PyProof.Rows L2
local macro_rules | `(tactic| walk_at "hp") => `(tactic| first
  | assumption
  | exact upd_same
  | (refine same_new (by assumption) _ _ ?_; walk_at "hp")
  | (refine (by assumption : Same _ _) _ _ ?_; walk_at "hp")
  | (refine FK.tk (by assumption) (by assumption) _ _ ?_; walk_at "hp"))
local macro_rules | `(tactic| walk_at "sq") => `(tactic| first
  | assumption
  | exact FrzT.sq (by assumption)
  | (refine sqt_new (by assumption) ?_; walk_at "sq")
  | (refine sqt_same ?_ (by assumption); walk_at "sq"))
local macro_rules | `(tactic| walk_at "fz") => `(tactic| first
  | assumption
  | (refine frz_new (by assumption) ?_; walk_at "fz")
  | (refine FrzT.same ?_ (by assumption); walk_at "fz"))
local macro_rules | `(tactic| walk_at "ic") => `(tactic| first
  | ((with_reducible show (0 : Int) < _); decide)
  | exact Or.inl ⟨by decide, by decide⟩
  | exact Or.inr ⟨by decide, by decide⟩
  | exact (show (0 : Int) < _ ∧ _ < (1073741824 : Int) from ⟨by decide, by decide⟩)
  | exact (show (0 : Int) ≤ _ ∧ _ ≤ (1000000 : Int) ∧ Int.natAbs _ < 2 ^ 64 from ⟨by decide, by decide, by decide⟩)
  | exact (⟨by decide, by decide, by decide⟩ : _ ∧ _ ∧ _))
local macro_rules | `(tactic| walk_at "st") => `(tactic| first
  | with_reducible refine rd_var rfl ?_
  | with_reducible refine rd_c ?_
  | with_reducible refine rd_cons ?_
  | with_reducible refine rd_nil ?_
  | with_reducible refine rd_op ?_
  | with_reducible refine rd_cb ?_
  | with_reducible refine rd_call ?_
  | with_reducible refine rd_test ?_
  | with_reducible refine rd_B ?_
  | with_reducible refine rd_bl ?_
  | with_reducible refine rd_un ?_
  | with_reducible refine rd_and ?_
  | with_reducible refine rd_or ?_
  | with_reducible refine rd_not ?_
  | with_reducible refine rd_andV ?_
  | with_reducible refine rd_orV ?_
  | with_reducible refine rd_notV ?_
  | with_reducible refine rd_if ?_
  | with_reducible refine rd_chain ?_
  | with_reducible refine rd_I0 ?_
  | with_reducible refine rd_U ?_
  | with_reducible refine rd_eqI ?_
  | with_reducible refine rd_neI ?_
  | with_reducible refine rd_eqS ?_
  | with_reducible refine rd_neS ?_
  | with_reducible refine rd_nn ?_
  | with_reducible refine rd_asg ?_
  | with_reducible refine rd_gname ?_
  | with_reducible refine rd_seq ?_
  | with_reducible refine rd_ifS ?_
  | with_reducible refine rd_ret ?_
  | with_reducible refine rd_next ?_
  | with_reducible refine rd_cont ?_
  | with_reducible refine rd_drop ?_
  | with_reducible refine rd_par ?_
  | with_reducible refine rd_vs2 ?_
  | with_reducible refine rd_gsub ?_
  | with_reducible refine rd_gcons ?_
  | with_reducible refine rd_gnil ?_
  | with_reducible refine rd_tup ?_
  | with_reducible refine rd_lst ?_
  | with_reducible refine rd_sl ?_
  | with_reducible refine rd_part ?_
  | with_reducible refine rd_nopart ?_
  | with_reducible refine rd_i1 ?_
  | with_reducible refine rd_bm ?_
  | with_reducible refine rd_yes ?_
  | with_reducible refine rd_lcT ?_
  | with_reducible refine rd_lcL ?_
  | with_reducible refine rd_lcR1 ?_
  | with_reducible refine rd_lcS ?_
  | with_reducible refine rd_forT ?_
  | with_reducible refine rd_forL ?_
  | with_reducible refine rd_forR1 ?_
  | with_reducible refine rd_atS ?_
  | with_reducible refine rd_forEn ?_
  | with_reducible refine rd_dget ?_
  | with_reducible refine rd_din ?_
  | with_reducible refine rd_dget2 ?_
  | with_reducible refine rd_dput ?_
  | with_reducible refine rd_disp ?_
  | with_reducible refine rd_pcons ?_
  | with_reducible refine rd_pnil ?_
  | with_reducible refine rd_dcL ?_
  | with_reducible refine rd_lcEn ?_
  | with_reducible refine rd_yS ?_
  | with_reducible refine rd_m1 ?_
  | with_reducible refine rd_meth ?_
  | with_reducible refine rd_fld ?_
  | with_reducible refine rd_sfld ?_
  | with_reducible refine rd_make ?_
  | with_reducible refine rd_fmt ?_
  | with_reducible refine rd_js ?_
  | with_reducible refine rd_js0 ?_
  | with_reducible refine iteT ?_
  | with_reducible refine iteF ?_
  | ((with_reducible refine isi_int (d := ?d1) (N := ?n1) ?h1 ?_); (case h1 => assumption))
  | ((with_reducible refine isi_bool (d := ?d1) (N := ?n1) ?h1 ?_); (case h1 => assumption))
  | ((with_reducible refine isi_str (d := ?d1) (N := ?n1) ?h1 ?_); (case h1 => assumption))
  | ((with_reducible refine isi_tuple (d := ?d1) (N := ?n1) ?h1 ?_); (case h1 => assumption))
  | with_reducible refine isi_str (N := fun _ => True) (Da.str _) ?_
  | with_reducible refine isi_int (N := fun _ => True) (Da.int _) ?_
  | with_reducible refine isi_bool (N := fun _ => True) (Da.int _) ?_
  | with_reducible refine isi_str (N := fun _ => True) (Da.int _) ?_
  | ((with_reducible show (wipe _ _ = wipe _ _) ∧ _); refine ⟨rfl, ?_⟩)
  | ((with_reducible show Ends.nx _ _ _); dsimp only)
  | ((with_reducible show Ends.rt _ _ _); dsimp only)
  | ((with_reducible show Ends.ct _ _ _); dsimp only)
  | ((with_reducible refine rd_ixT (xs := ?x1) (v := ?v1) ?h1 ?e1 ?_); (case h1 => walk_at "hp"); (case e1 => rfl))
  | ((with_reducible refine rd_ixL (xs := ?x1) (v := ?v1) ?h1 ?e1 ?_); (case h1 => walk_at "hp"); (case e1 => rfl))
  | ((with_reducible refine rd_lenT (xs := ?x1) ?h1 ?_); (case h1 => walk_at "hp"))
  | ((with_reducible refine rd_lenL (xs := ?x1) ?h1 ?_); (case h1 => walk_at "hp"))
  | ((with_reducible refine rd_tupOf (xs := ?x1) ?h1 ?_); (case h1 => walk_at "hp"))
  | ((with_reducible refine rd_all (bs := ?x1) ?h1 ?_); (case h1 => walk_at "hp"))
  | ((with_reducible refine rd_atT (xs := ?x1) ?h1 ?_); (case h1 => walk_at "hp"))
  | ((with_reducible refine rd_atL (xs := ?x1) ?h1 ?_); (case h1 => walk_at "hp"))
  | ((with_reducible refine rd_gtup (xs := ?x1) ?h1 ?e1 ?_); (case h1 => walk_at "hp"); (case e1 => rfl))
  | ((with_reducible refine rd_atEn (xs := ?x1) ?h1 ?_); (case h1 => walk_at "hp"))
  | ((with_reducible refine rd_slT (xs := ?x1) ?h1 ?_); (case h1 => walk_at "hp"))
  | ((with_reducible refine rd_slL (xs := ?x1) ?h1 ?_); (case h1 => walk_at "hp"))
  | ((with_reducible refine rd_inN (N := ?x1) ?h1 ?_); (case h1 => walk_at "hp"))
  | ((with_reducible refine rd_inL (N := ?x1) ?h1 ?_); (case h1 => walk_at "hp"))
  | ((with_reducible refine rd_notInN (N := ?x1) ?h1 ?_); (case h1 => walk_at "hp"))
  | ((with_reducible refine rd_notInL (N := ?x1) ?h1 ?_); (case h1 => walk_at "hp"))
  | with_reducible refine rd_tm ?_
  | ((with_reducible refine rd_isF (xs := ?x1) ?h1 ?_); (case h1 => walk_at "fz"))
  | ((with_reducible refine rd_lenTq (xs := ?x1) ?h1 ?_); (case h1 => walk_at "sq"))
  | ((with_reducible refine rd_atTq (xs := ?x1) ?h1 ?_); (case h1 => walk_at "sq"))
  | ((with_reducible refine rd_atEnq (xs := ?x1) ?h1 ?_); (case h1 => walk_at "sq"))
  | ((with_reducible refine rd_slTq (xs := ?x1) ?h1 ?_); (case h1 => walk_at "sq"))
  | ((with_reducible refine rd_inNq (N := ?x1) ?h1 ?_); (case h1 => walk_at "sq"))
  | ((with_reducible refine rd_setL (xs := ?x1) (j := ?j1) ?h1 ?e1 ?_); (case h1 => walk_at "hp"); (case e1 => rfl))
  | with_reducible refine rd_int1 ?_
  | with_reducible refine rd_x1 ?_
  | with_reducible refine rd_x2 ?_
  | ((with_reducible refine rd_tyL (xs := ?x1) ?h1 ?_); (case h1 => walk_at "hp"))
  | ((with_reducible refine rd_ixsL (xs := ?x1) (v := ?v1) ?h1 ?e1 ?_); (case h1 => walk_at "hp"); (case e1 => rfl))
  | ((with_reducible refine rd_ixsT (xs := ?x1) (v := ?v1) ?h1 ?e1 ?_); (case h1 => walk_at "hp"); (case e1 => rfl))
  | ((with_reducible refine rd_I ?c1 ?_); (case c1 => walk_at "ic"))
  | ((with_reducible refine if_t ?hb1 ?_); (case hb1 => rfl))
  | ((with_reducible refine if_f ?hb1 ?_); (case hb1 => rfl)))
local macro_rules | `(tactic| walk_at "go") => `(tactic| repeat (first | walk_at "st" | dsimp only))
section
variable {P : Program} {w : World} {K : Frag} {mg : Str → Option Value} {base : Heap}

/-! ### dict comprehensions over a walk; how many keys -/
section
variable {κ : Type} [DecidableEq κ]
def keysD (ks : List κ) (acc : List (κ × V)) : List (κ × V) := ks.foldl (fun acc k => putK acc k (.bl true)) acc
theorem put_keys {acc : List (κ × V)} {k : κ} {v : V} : ((putK acc k v).map (·.1)) = if k ∈ acc.map (·.1) then acc.map (·.1) else acc.map (·.1) ++ [k] := by
  unfold putK
  have e : (acc.any fun kv => decide (kv.1 = k)) = decide (k ∈ acc.map (·.1)) := by
    induction acc with
    | nil => rfl
    | cons a acc ih =>
      rw [List.any_cons, ih, List.map_cons]
      by_cases h : a.1 = k
      · rw [decide_eq_true h, Bool.true_or, decide_eq_true (List.mem_cons.mpr (.inl h.symm))]
      · rw [decide_eq_false h, Bool.false_or]
        by_cases h2 : k ∈ acc.map (·.1)
        · rw [decide_eq_true h2, decide_eq_true (List.mem_cons.mpr (.inr h2))]
        · rw [decide_eq_false h2, decide_eq_false fun z => (List.mem_cons.mp z).elim (fun z => h z.symm) h2]
  by_cases h : k ∈ acc.map (·.1)
  · rw [if_pos h, e, if_pos (decide_eq_true h), List.map_map]
    exact List.map_congr_left fun a _ => by
      show (if a.1 = k then (a.1, v) else a).1 = a.1
      by_cases g : a.1 = k
      · rw [if_pos g]
      · rw [if_neg g]
  · rw [if_neg h, e, if_neg (by rw [decide_eq_false h]; exact Bool.false_ne_true), List.map_append] <;> rfl
theorem keysD_len : ∀ (ks : List κ) (acc : List (κ × V)), (keysD ks acc).length ≤ acc.length + ks.length ∧ ((keysD ks acc).length = acc.length + ks.length ↔ ks.Nodup ∧ ∀ k ∈ ks, k ∉ acc.map (·.1))
  | [], acc => ⟨Nat.le_refl _, ⟨fun _ => ⟨List.nodup_nil, fun k h => by cases h⟩, fun _ => rfl⟩⟩
  | k :: ks, acc => by
    obtain ⟨a, b⟩ := keysD_len ks (putK acc k (.bl true))
    have e : keysD (k :: ks) acc = keysD ks (putK acc k (.bl true)) := rfl
    have hk := put_keys (acc := acc) (k := k) (v := .bl true)
    have hl : (putK acc k (.bl true)).length = ((putK acc k (.bl true)).map (·.1)).length := (List.length_map ..).symm
    rw [e, List.length_cons]
    by_cases h : k ∈ acc.map (·.1)
    · rw [if_pos h] at hk
      rw [hk, List.length_map] at hl
      rw [hl] at a
      refine ⟨by omega, ⟨fun z => by omega, fun z => absurd h (z.2 k List.mem_cons_self)⟩⟩
    · rw [if_neg h] at hk
      rw [hk, List.length_append, List.length_map, List.length_singleton] at hl
      rw [hl, hk] at b
      rw [hl] at a
      refine ⟨by omega, ?_⟩
      have e3 : (keysD ks (putK acc k (.bl true))).length = acc.length + (ks.length + 1) ↔ (keysD ks (putK acc k (.bl true))).length = acc.length + 1 + ks.length := by omega
      rw [e3, b]
      constructor
      · rintro ⟨n, m⟩
        refine ⟨List.nodup_cons.mpr ⟨fun z => m k z (List.mem_append.mpr (.inr (List.mem_singleton_self k))), n⟩, fun x hx => ?_⟩
        rcases List.mem_cons.mp hx with rfl | hx
        · exact h
        · exact fun z => m x hx (List.mem_append.mpr (.inl z))
      · rintro ⟨n, m⟩
        obtain ⟨n1, n2⟩ := List.nodup_cons.mp n
        refine ⟨n2, fun x hx z => ?_⟩
        rcases List.mem_append.mp z with z | z
        · exact m x (List.mem_cons_of_mem _ hx) z
        · rw [List.mem_singleton.mp z] at hx
          exact n1 hx
theorem keysD_nd (ks : List κ) : decide ((keysD ks []).length = ks.length) = decide ks.Nodup := by
  have h := (keysD_len ks []).2
  rw [List.length_nil, Nat.zero_add] at h
  by_cases g : ks.Nodup
  · rw [decide_eq_true g, decide_eq_true (h.mpr ⟨g, fun _ _ z => by cases z⟩)]
  · rw [decide_eq_false g, decide_eq_false fun z => g (h.mp z).1]
end
section
variable {σ : L2.St} {H : Hp} {Q : VK} {g : TG} {tt : TT} {tk tv : TE} {vs : List Nat} {J : It} {n : Nat} {G : Hp → Prop} {Y : Nat → Hp → V → Hp → Prop} {tl ts : TE}
def DcAt (J : It) (g : TG) (tt : TT) (tk tv : TE) (vs : List Nat) (σ : L2.St) (H : Hp) (Q : VK) : Prop := tDc (fun _ H R => R J H) g tt tk tv vs σ H Q
theorem rd_dcL (q : ts σ H fun x H1 => ∃ a, x = .ref a ∧ (∃ xs, SqL K H1 a xs) ∧ DcAt (Itl K a) g tt tk tv vs σ H1 Q) : tDc (iList K ts) g tt tk tv vs σ H Q := q
/-- a dict comprehension of known keys, each with True -/
theorem dcM (w : Walk J n G Y) (ks : List Key) (hl : ks.length = n) (hn : n ≤ 10000000) (gk : ∀ H1, Same H H1 → G H1)
    (step : ∀ j x H1 H1' k, j < n → Same H H1 → Y j H1 x H1' → ks[j]? = some k → ∀ (Qk : VK) (Qn : Hp → Prop), (∀ H2, Same H1 H2 → Qk (kV k) H2) →
      g x (wipe σ vs) H1' fun σ2 H2 => wipe σ2 vs = wipe σ vs ∧ tt σ2 H2 fun b H3 => if b = true then tk σ2 H3 Qk else Qn H3) (ht : tv = tC (.bl true))
    (fin : ∀ D H1, H D = none → Same H H1 → H1 D = some (.dK (keysD ks [])) → Q (.ref D) H1) : DcAt J g tt tk tv vs σ H Q := by
  intro D hD
  subst ht
  refine ⟨fun i m H1 => m = n - i ∧ i ≤ n ∧ Same H H1 ∧ H1 D = some (.dK (keysD (ks.take i) [])), ⟨n, by simp, Nat.zero_le _, same_new hD, upd_same⟩, ?_⟩
  rintro i m H1 ⟨rfl, hi, s, e⟩
  have q := gk H1 s
  by_cases hlt : i < n
  · refine .inr ⟨w.goes i H1 hlt q, fun H2 => i + 1 ≤ n ∧ Same H H2 ∧ H2 D = some (.dK (keysD (ks.take (i + 1)) [])), fun H2 ⟨a, b, c⟩ => ⟨n - (i + 1), by omega, rfl, a, b, c⟩, fun x H' y => ?_⟩
    have hj2 : i < ks.length := by omega
    have ek := List.getElem?_eq_getElem hj2
    have tk1 : ks.take (i + 1) = ks.take i ++ [ks[i]] := by
      rw [List.take_add_one, ek] <;> rfl
    refine step i x H1 H' ks[i] hlt s (w.yields i H1 x H' hlt q y) ek (fun y H4 => ∃ kvs k, y = kV k ∧ H4 D = some (.dK kvs) ∧ kvs.length < sizeLine ∧ (i + 1 ≤ n ∧ Same H (upd H4 D (.dK (putK kvs k (.bl true)))) ∧ upd H4 D (.dK (putK kvs k (.bl true))) D = some (.dK (keysD (ks.take (i + 1)) [])))) _ fun H2 s2 => ?_
    have e2 := s2 _ _ e
    refine ⟨_, _, rfl, e2, ?_, hlt, same_mut (s.trans s2) hD, ?_⟩
    · have := (keysD_len (ks.take i) ([] : List (Key × V))).1
      rw [List.length_nil, List.length_take] at this
      exact Nat.lt_of_le_of_lt (m := 10000000) (by omega) (by decide)
    · rw [upd_same, tk1, keysD, keysD, List.foldl_append] <;> rfl
  · have ei : i = n := by omega
    subst ei
    refine .inl ⟨w.stops H1 q, fin D H1 hD s ?_⟩
    rw [e, ← hl, List.take_length]
end
end
end K59
/-! K59P10 -/
set_option Elab.async false
set_option linter.all false
set_option maxRecDepth 100000
set_option maxHeartbeats 4000000
namespace K59
open PySem PySem.W PySem.Calls PySem.Spec PyProof.Rows L2
local macro_rules | `(tactic| walk_at "hp") => `(tactic| first
  | assumption
  | exact upd_same
  | (refine same_new (by assumption) _ _ ?_; walk_at "hp")
  | (refine (by assumption : Same _ _) _ _ ?_; walk_at "hp")
  | (refine FK.tk (by assumption) (by assumption) _ _ ?_; walk_at "hp"))
local macro_rules | `(tactic| walk_at "sq") => `(tactic| first
  | assumption
  | exact FrzT.sq (by assumption)
  | (refine sqt_new (by assumption) ?_; walk_at "sq")
  | (refine sqt_same ?_ (by assumption); walk_at "sq"))
local macro_rules | `(tactic| walk_at "fz") => `(tactic| first
  | assumption
  | (refine frz_new (by assumption) ?_; walk_at "fz")
  | (refine FrzT.same ?_ (by assumption); walk_at "fz"))
local macro_rules | `(tactic| walk_at "ic") => `(tactic| first
  | ((with_reducible show (0 : Int) < _); decide)
  | exact Or.inl ⟨by decide, by decide⟩
  | exact Or.inr ⟨by decide, by decide⟩
  | exact (show (0 : Int) < _ ∧ _ < (1073741824 : Int) from ⟨by decide, by decide⟩)
  | exact (show (0 : Int) ≤ _ ∧ _ ≤ (1000000 : Int) ∧ Int.natAbs _ < 2 ^ 64 from ⟨by decide, by decide, by decide⟩)
  | exact (⟨by decide, by decide, by decide⟩ : _ ∧ _ ∧ _))
local macro_rules | `(tactic| walk_at "st") => `(tactic| first
  | with_reducible refine rd_var rfl ?_
  | with_reducible refine rd_c ?_
  | with_reducible refine rd_cons ?_
  | with_reducible refine rd_nil ?_
  | with_reducible refine rd_op ?_
  | with_reducible refine rd_cb ?_
  | with_reducible refine rd_call ?_
  | with_reducible refine rd_test ?_
  | with_reducible refine rd_B ?_
  | with_reducible refine rd_bl ?_
  | with_reducible refine rd_un ?_
  | with_reducible refine rd_and ?_
  | with_reducible refine rd_or ?_
  | with_reducible refine rd_not ?_
  | with_reducible refine rd_andV ?_
  | with_reducible refine rd_orV ?_
  | with_reducible refine rd_notV ?_
  | with_reducible refine rd_if ?_
  | with_reducible refine rd_chain ?_
  | with_reducible refine rd_I0 ?_
  | with_reducible refine rd_U ?_
  | with_reducible refine rd_eqI ?_
  | with_reducible refine rd_neI ?_
  | with_reducible refine rd_eqS ?_
  | with_reducible refine rd_neS ?_
  | with_reducible refine rd_nn ?_
  | with_reducible refine rd_asg ?_
  | with_reducible refine rd_gname ?_
  | with_reducible refine rd_seq ?_
  | with_reducible refine rd_ifS ?_
  | with_reducible refine rd_ret ?_
  | with_reducible refine rd_next ?_
  | with_reducible refine rd_cont ?_
  | with_reducible refine rd_drop ?_
  | with_reducible refine rd_par ?_
  | with_reducible refine rd_vs2 ?_
  | with_reducible refine rd_gsub ?_
  | with_reducible refine rd_gcons ?_
  | with_reducible refine rd_gnil ?_
  | with_reducible refine rd_tup ?_
  | with_reducible refine rd_lst ?_
  | with_reducible refine rd_sl ?_
  | with_reducible refine rd_part ?_
  | with_reducible refine rd_nopart ?_
  | with_reducible refine rd_i1 ?_
  | with_reducible refine rd_bm ?_
  | with_reducible refine rd_yes ?_
  | with_reducible refine rd_lcT ?_
  | with_reducible refine rd_lcL ?_
  | with_reducible refine rd_lcR1 ?_
  | with_reducible refine rd_lcS ?_
  | with_reducible refine rd_forT ?_
  | with_reducible refine rd_forL ?_
  | with_reducible refine rd_forR1 ?_
  | with_reducible refine rd_atS ?_
  | with_reducible refine rd_forEn ?_
  | with_reducible refine rd_dget ?_
  | with_reducible refine rd_din ?_
  | with_reducible refine rd_dget2 ?_
  | with_reducible refine rd_dput ?_
  | with_reducible refine rd_disp ?_
  | with_reducible refine rd_pcons ?_
  | with_reducible refine rd_pnil ?_
  | with_reducible refine rd_dcL ?_
  | with_reducible refine rd_lcEn ?_
  | with_reducible refine rd_yS ?_
  | with_reducible refine rd_m1 ?_
  | with_reducible refine rd_meth ?_
  | with_reducible refine rd_fld ?_
  | with_reducible refine rd_sfld ?_
  | with_reducible refine rd_make ?_
  | with_reducible refine rd_fmt ?_
  | with_reducible refine rd_js ?_
  | with_reducible refine rd_js0 ?_
  | with_reducible refine iteT ?_
  | with_reducible refine iteF ?_
  | ((with_reducible refine isi_int (d := ?d1) (N := ?n1) ?h1 ?_); (case h1 => assumption))
  | ((with_reducible refine isi_bool (d := ?d1) (N := ?n1) ?h1 ?_); (case h1 => assumption))
  | ((with_reducible refine isi_str (d := ?d1) (N := ?n1) ?h1 ?_); (case h1 => assumption))
  | ((with_reducible refine isi_tuple (d := ?d1) (N := ?n1) ?h1 ?_); (case h1 => assumption))
  | with_reducible refine isi_str (N := fun _ => True) (Da.str _) ?_
  | with_reducible refine isi_int (N := fun _ => True) (Da.int _) ?_
  | with_reducible refine isi_bool (N := fun _ => True) (Da.int _) ?_
  | with_reducible refine isi_str (N := fun _ => True) (Da.int _) ?_
  | ((with_reducible show (wipe _ _ = wipe _ _) ∧ _); refine ⟨rfl, ?_⟩)
  | ((with_reducible show Ends.nx _ _ _); dsimp only)
  | ((with_reducible show Ends.rt _ _ _); dsimp only)
  | ((with_reducible show Ends.ct _ _ _); dsimp only)
  | ((with_reducible refine rd_ixT (xs := ?x1) (v := ?v1) ?h1 ?e1 ?_); (case h1 => walk_at "hp"); (case e1 => rfl))
  | ((with_reducible refine rd_ixL (xs := ?x1) (v := ?v1) ?h1 ?e1 ?_); (case h1 => walk_at "hp"); (case e1 => rfl))
  | ((with_reducible refine rd_lenT (xs := ?x1) ?h1 ?_); (case h1 => walk_at "hp"))
  | ((with_reducible refine rd_lenL (xs := ?x1) ?h1 ?_); (case h1 => walk_at "hp"))
  | ((with_reducible refine rd_tupOf (xs := ?x1) ?h1 ?_); (case h1 => walk_at "hp"))
  | ((with_reducible refine rd_all (bs := ?x1) ?h1 ?_); (case h1 => walk_at "hp"))
  | ((with_reducible refine rd_atT (xs := ?x1) ?h1 ?_); (case h1 => walk_at "hp"))
  | ((with_reducible refine rd_atL (xs := ?x1) ?h1 ?_); (case h1 => walk_at "hp"))
  | ((with_reducible refine rd_gtup (xs := ?x1) ?h1 ?e1 ?_); (case h1 => walk_at "hp"); (case e1 => rfl))
  | ((with_reducible refine rd_atEn (xs := ?x1) ?h1 ?_); (case h1 => walk_at "hp"))
  | ((with_reducible refine rd_slT (xs := ?x1) ?h1 ?_); (case h1 => walk_at "hp"))
  | ((with_reducible refine rd_slL (xs := ?x1) ?h1 ?_); (case h1 => walk_at "hp"))
  | ((with_reducible refine rd_inN (N := ?x1) ?h1 ?_); (case h1 => walk_at "hp"))
  | ((with_reducible refine rd_inL (N := ?x1) ?h1 ?_); (case h1 => walk_at "hp"))
  | ((with_reducible refine rd_notInN (N := ?x1) ?h1 ?_); (case h1 => walk_at "hp"))
  | ((with_reducible refine rd_notInL (N := ?x1) ?h1 ?_); (case h1 => walk_at "hp"))
  | with_reducible refine rd_tm ?_
  | ((with_reducible refine rd_isF (xs := ?x1) ?h1 ?_); (case h1 => walk_at "fz"))
  | ((with_reducible refine rd_lenTq (xs := ?x1) ?h1 ?_); (case h1 => walk_at "sq"))
  | ((with_reducible refine rd_atTq (xs := ?x1) ?h1 ?_); (case h1 => walk_at "sq"))
  | ((with_reducible refine rd_atEnq (xs := ?x1) ?h1 ?_); (case h1 => walk_at "sq"))
  | ((with_reducible refine rd_slTq (xs := ?x1) ?h1 ?_); (case h1 => walk_at "sq"))
  | ((with_reducible refine rd_inNq (N := ?x1) ?h1 ?_); (case h1 => walk_at "sq"))
  | ((with_reducible refine rd_setL (xs := ?x1) (j := ?j1) ?h1 ?e1 ?_); (case h1 => walk_at "hp"); (case e1 => rfl))
  | with_reducible refine rd_int1 ?_
  | with_reducible refine rd_x1 ?_
  | with_reducible refine rd_x2 ?_
  | ((with_reducible refine rd_tyL (xs := ?x1) ?h1 ?_); (case h1 => walk_at "hp"))
  | ((with_reducible refine rd_ixsL (xs := ?x1) (v := ?v1) ?h1 ?e1 ?_); (case h1 => walk_at "hp"); (case e1 => rfl))
  | ((with_reducible refine rd_ixsT (xs := ?x1) (v := ?v1) ?h1 ?e1 ?_); (case h1 => walk_at "hp"); (case e1 => rfl))
  | ((with_reducible refine rd_I ?c1 ?_); (case c1 => walk_at "ic"))
  | ((with_reducible refine if_t ?hb1 ?_); (case hb1 => rfl))
  | ((with_reducible refine if_f ?hb1 ?_); (case hb1 => rfl)))
local macro_rules | `(tactic| walk_at "go") => `(tactic| repeat (first | walk_at "st" | dsimp only))
section
variable {P : Program} {w : World} {K : Frag} {mg : Str → Option Value} {base : Heap}

theorem PtAt.ix {f : Rl → List V} {H : Hp} {as : List Addr} {rs : List Rl} {l : Addr} {k : Nat} {Q : VK} (h : PtAt f H as rs) (hl : H l = some (.lst (as.map V.ref))) (hk : k < rs.length) (q : ∀ a, H a = some (.tup (f rs[k])) → Q (.ref a) H) : rIxL K (.ref l) (.int (k : Nat)) H Q := by
  obtain ⟨a, e, ha⟩ := h.nth hk
  exact rd_ixL hl (atI_nat e) (q a ha)
theorem RlOk.hiM {N : List Str} {r : Rl} (h : RlOk N r) : r.hi ∈ eS :: N := h.hi
abbrev N_are_joined : List Str := ["arcs", "k"]
theorem sc_are_joined : FnScope N_are_joined ["arcs"] (defScope s_are_joined) := ⟨rfl, rfl, rfl, by decide +kernel, rfl, by decide +kernel, by decide +kernel⟩
def sp_are_joined (K : Frag) : Sp := fun vs H Q _ => ∃ l as, ∃ N : List Str, ∃ rs, vs = [.ref l] ∧ H l = some (.lst (as.map V.ref)) ∧ PtAt (endsV N) H as rs ∧ (∀ r ∈ rs, RlOk N r) ∧ rs.length ≤ 1000 ∧ ∀ H', Same H H' → Q (.bl (joinB rs)) H'
theorem c_are_joined (S : Sys K mg) : C8.Cal P w K mg base 1 "are_joined" (sp_are_joined K) [] := by
  refine calD S.f_D_are_joined S.g_are_joined sc_are_joined (fun _ _ _ _ _ _ us hl => match us, hl with | [_], _ => rfl) ?_ ?_
  · rintro vs H Q E ⟨_, _, _, _, rfl, _⟩
    rfl
  · rintro cdv A outer s H vs Q E hr ⟨l, as, N, rs, rfl, hl, pt, ok, le, q⟩
    refine ⟨_, pss_one (ps_ret (pe_callB (cr_allC (K := K) rfl rfl) (by rfl) S.n_all (by decide +kernel) (pa_cons (pe_lc (own := [("k", 1)]) (g := gName 1) (tt := tYes) rfl sc_are_joined.nd (pi_range1 (by rfl) S.n_range (pa_cons (pe_op op_sub (pe_callB (call_len_seqC (K := K) rfl) (by rfl) S.n_len (by decide +kernel) (pa_cons (pv 0) pa_nil)) pe_int) pa_nil)) (blkOk_by (N := N_are_joined) (sc := defScope s_are_joined) (by decide +kernel)) (fun _ _ _ _ _ => (pg_name (i := 1) sc_are_joined.nd rfl (Or.inl rfl))) (fun _ _ _ _ _ => pts_nil) (fun _ _ _ _ _ => (pe_cmpR op_eq (pe_ix (ix_tupC (K := K) rfl) (pe_ix (ix_listC (K := K) rfl) (pv 0) (pv 1) (fun _ _ => rfl)) pe_int (fun _ _ => rfl)) (pe_ix (ix_tupC (K := K) rfl) (pe_ix (ix_listC (K := K) rfl) (pv 0) (pe_op op_add (pv 1) pe_int) (fun _ _ => rfl)) pe_int (fun _ _ => rfl)) (nomark _)))) pa_nil))), ?_⟩
    have ll := pt.len
    walk_at "go"
    rw [ll]
    refine rd_atR (by omega) (by omega) ?_
    have en : ((rs.length : Int) - 1).toNat = rs.length - 1 := by omega
    rw [en]
    refine lcM (n := rs.length - 1) walk_r0 (((List.range (rs.length - 1)).map fun k => decide (hiAt rs k = loAt rs (k + 1))).map V.bl) (by simp) (by omega) (fun _ _ => trivial) (fun j x H1 H1' y hj s hY hy Qy Qn hQ => ?_) fun L H1 hL s e => ?_
    · obtain ⟨rfl, rfl⟩ := hY
      rw [List.getElem?_map, List.getElem?_map, List.getElem?_range hj] at hy
      cases hy
      have pt1 := pt.same s
      have hl1 := s _ _ hl
      walk_at "go"
      refine pt1.ix hl1 (k := j) (by omega) fun a ha => ?_
      unfold endsV at ha
      walk_at "go"
      have e1 : (j : Int) + 1 = ((j + 1 : Nat) : Int) := by omega
      rw [e1]
      refine pt1.ix hl1 (k := j + 1) (by omega) fun b hb => ?_
      unfold endsV at hb
      walk_at "go"
      rw [pos_dec (ok _ (List.getElem_mem _)).hi (ok _ (List.getElem_mem _)).lo, ← hiAt_of (by omega), ← loAt_of (by omega)]
      exact hQ _ (Same.refl _)
    · walk_at "go"
      have e2 : ((List.range (rs.length - 1)).map fun k => decide (hiAt rs k = loAt rs (k + 1))).all id = joinB rs := by rw [List.all_map] <;> rfl
      rw [e2]
      exact q _ s
theorem spots_ok {N : List Str} {R : List Rl} (ok : ∀ r ∈ R, RlOk N r) {d : PyData} {rs : List Rl} (h : spotsR R d = some rs) : (∀ r ∈ rs, RlOk N r) ∧ ∀ ds, d = .tuple ds → rs.length = ds.length := by
  cases d with
  | tuple ds =>
    have h : (if ds.all (btwD 0 ((R.length : Int) - 1)) = true then some (ds.map (rAt R)) else none) = some rs := h
    by_cases g : ds.all (btwD 0 ((R.length : Int) - 1)) = true
    · rw [if_pos g] at h
      cases h
      refine ⟨fun r hr => ?_, fun ds' e => by cases e; rw [List.length_map]⟩
      obtain ⟨d, hd, rfl⟩ := List.mem_map.mp hr
      obtain ⟨i, _, _, _, hm⟩ := rAt_mem (List.all_eq_true.mp g d hd)
      exact ok _ hm
    · rw [if_neg g] at h
      cases h
  | _ => cases h
theorem spots_len {R : List Rl} {d : PyData} {rs : List Rl} (h : spotsR R d = some rs) (hl : ∀ ds, d = .tuple ds → ds.length ≤ 1000) : rs.length ≤ 1000 := by
  cases d with
  | tuple ds =>
    have h : (if ds.all (btwD 0 ((R.length : Int) - 1)) = true then some (ds.map (rAt R)) else none) = some rs := h
    by_cases g : ds.all (btwD 0 ((R.length : Int) - 1)) = true
    · rw [if_pos g] at h
      cases h
      rw [List.length_map]
      exact hl ds rfl
    · rw [if_neg g] at h
      cases h
  | _ => cases h
theorem nd_map {N : List Str} {rs : List Rl} (ok : ∀ r ∈ rs, RlOk N r) : decide (rs.map fun r => (Sum.inl ((posN N r.hi : Nat) : Int) : L2.Key)).Nodup = decide (rs.map Rl.hi).Nodup := by
  have e : (rs.map fun r => (Sum.inl ((posN N r.hi : Nat) : Int) : L2.Key)).Nodup ↔ (rs.map Rl.hi).Nodup := by
    unfold List.Nodup
    rw [List.pairwise_map, List.pairwise_map]
    constructor
    · exact fun h => h.imp_of_mem fun {a b} ha hb h z => h (by rw [z])
    · refine fun h => h.imp_of_mem fun {a b} ha hb h z => h (posN_inj (ok _ ha).hi (ok _ hb).hi ?_)
      have := Sum.inl.inj z
      omega
  by_cases g : (rs.map Rl.hi).Nodup
  · rw [decide_eq_true g, decide_eq_true (e.mpr g)]
  · rw [decide_eq_false g, decide_eq_false fun z => g (e.mp z)]
abbrev N_ring_in : List Str := ["form", "value", "arcs", "arc"]
theorem sc_ring_in : FnScope N_ring_in ["form", "value"] (defScope s_ring_in) := ⟨rfl, rfl, rfl, by decide +kernel, rfl, by decide +kernel, by decide +kernel⟩
def sp_ring_in (K : Frag) : Sp := fun vs H Q _ => ∃ o v, ∃ N : List Str, ∃ R Nn d, vs = [.ref o, v] ∧ FormP K H o N R ∧ FormOk N R ∧ Da Nn H v d ∧ (∀ ds, d = .tuple ds → ds.length ≤ 1000) ∧ ∀ H' x, Same H H' → OptArcs N H' x (ringD R d) → Q x H'
theorem c_ring_in (S : Sys K mg) : C8.Cal P w K mg base 4 "ring_in" (sp_ring_in K) [] := by
  refine calD S.f_D_ring_in S.g_ring_in sc_ring_in (fun _ _ _ _ _ _ us hl => match us, hl with | [_, _], _ => rfl) ?_ ?_
  · rintro vs H Q E ⟨_, _, _, _, _, _, rfl, _⟩
    rfl
  · rintro cdv A outer s H vs Q E hr ⟨o, v, N, R, Nn, d, rfl, hF, ok, hd, hl, q⟩
    refine ⟨_, pss_cons (ps_set (i := 2) sc_ring_in.nd rfl (Or.inl rfl) (C8.pe_c (c_arcs_of (K := K) S) hr (by decide) rfl (pa_cons (pv 0) (pa_cons (pv 1) pa_nil))))
      (pss_cons (ps_if (PW.pt (pw_or (pt_cmpR op_isN (pv 2) pe_non (nomark _)) (pw_or (pt_cmpR op_lt (pe_callB (call_len_seqC (K := K) rfl) (by rfl) S.n_len (by decide +kernel) (pa_cons (pv 2) pa_nil)) pe_int (nomark _)) (pw_or (pt_not (pt_val (C8.pe_c (c_are_joined (K := K) S) hr (by decide) rfl (pa_cons (pv 2) pa_nil)))) (pw_or1 (pt_cmpR op_ne (pe_ix (ix_tupC (K := K) rfl) (pe_ix (ix_listC (K := K) rfl) (pv 2) (pe_un un_neg pe_int) (fun _ _ => rfl)) pe_int (fun _ _ => rfl)) (pe_ix (ix_tupC (K := K) rfl) (pe_ix (ix_listC (K := K) rfl) (pv 2) pe_int (fun _ _ => rfl)) pe_int (fun _ _ => rfl)) (nomark _))))))) (pss_one (ps_ret pe_non)) pss_nil)
      (pss_one (ps_ret (pe_ifExp (pt_cmpR op_eq (pe_callB call_lenD (by rfl) S.n_len (by decide +kernel) (pa_cons (pe_dc (own := [("arc", 3)]) (g := gName 3) (tt := tYes) rfl sc_ring_in.nd (pi_listC (K := K) rfl (pv 2)) (blkOk_by (N := N_ring_in) (sc := defScope s_ring_in) (by decide +kernel)) (fun _ _ _ _ _ => (pg_name (i := 3) sc_ring_in.nd rfl (Or.inl rfl))) (fun _ _ _ _ _ => pts_nil) (fun _ _ _ _ _ => (pe_ix (ix_tupC (K := K) rfl) (pv 3) pe_int (fun _ _ => rfl))) (fun _ _ _ _ _ => pe_bl)) pa_nil)) (pe_callB (call_len_seqC (K := K) rfl) (by rfl) S.n_len (by decide +kernel) (pa_cons (pv 2) pa_nil)) (nomark _)) (pv 2) pe_non)))), ?_⟩
    walk_at "go"
    refine ⟨o, v, N, R, Nn, d, rfl, hF, ok, hd, hl, fun H1 x s1 hx => ?_⟩
    unfold ringD at q
    cases hs : spotsR R d with
    | none =>
      rw [hs] at hx q
      cases hx
      walk_at "go"
      exact q _ _ s1 rfl
    | some rs =>
      rw [hs] at hx q
      obtain ⟨l, as, rfl, hl1, pt⟩ := hx
      obtain ⟨okr, _⟩ := spots_ok ok.rl hs
      have rl := spots_len hs hl
      have ll := pt.len
      have no : ∀ {H2 : Hp}, Same H H2 → ringB rs = false → Q .non H2 := fun s e => q _ _ s (by
        show OptArcs N _ .non (if _ then _ else none)
        rw [if_neg (by rw [e]; exact Bool.false_ne_true)] <;> rfl)
      walk_at "go"
      rw [ll]
      refine ifb (fun h => ?_) fun h => ?_
      · walk_at "go"
        refine no s1 ?_
        have := of_decide_eq_true h
        unfold ringB
        rw [decide_eq_false (by omega), Bool.false_and]
      have h2 : 2 ≤ rs.length := by
        have := of_decide_eq_false h
        omega
      walk_at "go"
      refine ⟨l, as, N, rs, rfl, hl1, pt, okr, rl, fun H2 s2 => ?_⟩
      have s12 := Same.trans s1 s2
      have pt2 := pt.same s2
      have hl2 := s2 _ _ hl1
      walk_at "go"
      refine ifb (fun h => ?_) fun h => ?_
      · walk_at "go"
        refine no s12 ?_
        have hj : joinB rs = false := by simpa using h
        unfold ringB
        rw [hj, Bool.false_and, Bool.and_false]
      have hj : joinB rs = true := by simpa using h
      have em1 : atI (as.map V.ref) (-1) = some ((as.map V.ref)[rs.length - 1]'(by omega)) := by
        have e0 : as.map V.ref = (as.map V.ref).take (rs.length - 1) ++ [(as.map V.ref)[rs.length - 1]'(by omega)] := by
          have := List.take_append_getElem (l := as.map V.ref) (i := rs.length - 1) (by omega)
          rw [this, List.take_of_length_le (by omega)]
        have e1 := atI_last ((as.map V.ref).take (rs.length - 1)) ((as.map V.ref)[rs.length - 1]'(by omega))
        rw [← e0] at e1
        exact e1
      obtain ⟨a, ea, ha⟩ := pt2.nth (k := rs.length - 1) (by omega)
      rw [List.getElem?_eq_getElem (by omega)] at ea
      rw [Option.some.inj ea] at em1
      unfold endsV at ha
      walk_at "go"
      refine rd_ixL hl2 em1 ?_
      walk_at "go"
      refine pt2.ix hl2 (k := 0) (by omega) fun b hb => ?_
      unfold endsV at hb
      walk_at "go"
      rw [pos_dec (okr _ (List.getElem_mem _)).hi (okr _ (List.getElem_mem _)).lo, ← hiAt_of (by omega), ← loAt_of (by omega)]
      refine ifb (fun h => ?_) fun h => ?_
      · walk_at "go"
        refine no s12 ?_
        have he : decide (hiAt rs (rs.length - 1) = loAt rs 0) = false := by simpa using h
        unfold ringB
        rw [he, Bool.false_and, Bool.and_false, Bool.and_false]
      have he : decide (hiAt rs (rs.length - 1) = loAt rs 0) = true := by simpa using h
      walk_at "go"
      refine dcM (n := rs.length) (G := fun H => SqL K H l (as.map V.ref)) (Y := YAt (as.map V.ref)) (ll ▸ walk_list) (rs.map fun r => (Sum.inl ((posN N r.hi : Nat) : Int) : L2.Key)) (List.length_map ..) (by omega) (fun H3 s => .inl (.inl (s _ _ hl2))) (fun j x H3 H3' k hj s hY hk Qk Qn hQ => ?_) rfl fun D H3 hD s e => ?_
      · obtain ⟨rfl, hx⟩ := hY
        obtain ⟨b, r, rfl, hb1, hb2, hb3⟩ := (pt2.same s).get hx
        rw [List.getElem?_map, hb2] at hk
        cases hk
        unfold endsV at hb3
        walk_at "go"
        exact hQ _ (Same.refl _)
      · walk_at "go"
        refine ⟨D, _, rfl, e, ?_⟩
        have s13 := Same.trans s12 s
        have pt3 := pt2.same s
        have hl3 := s _ _ hl2
        walk_at "go"
        have ek : decide (((keysD (rs.map fun r => (Sum.inl ((posN N r.hi : Nat) : Int) : L2.Key)) []).length : Int) = ((as.map V.ref).length : Nat)) = decide (rs.map Rl.hi).Nodup := by
          rw [ll, ← nd_map okr, ← keysD_nd, List.length_map]
          by_cases g : (keysD (rs.map fun r => (Sum.inl ((posN N r.hi : Nat) : Int) : L2.Key)) []).length = rs.length
          · rw [decide_eq_true g, decide_eq_true (by omega)]
          · rw [decide_eq_false g, decide_eq_false (by omega)]
        rw [ek]
        have er : ringB rs = decide (rs.map Rl.hi).Nodup := by
          unfold ringB
          rw [decide_eq_true h2, hj, he, Bool.true_and, Bool.true_and, Bool.true_and]
        refine ifb (fun h => ?_) fun h => ?_
        · walk_at "go"
          refine q _ _ s13 ?_
          show OptArcs N _ _ (if _ then _ else none)
          rw [if_pos (er.trans h)]
          exact ⟨l, as, rfl, hl3, pt3⟩
        · walk_at "go"
          exact no s13 (er.trans h)
end
end K59
/-! K59P11 -/
set_option Elab.async false
set_option linter.all false
set_option maxRecDepth 100000
set_option maxHeartbeats 4000000
namespace K59
open PySem PySem.W PySem.Calls PySem.Spec PyProof.Rows L2
local macro_rules | `(tactic| walk_at "hp") => `(tactic| first
  | assumption
  | exact upd_same
  | (refine same_new (by assumption) _ _ ?_; walk_at "hp")
  | (refine (by assumption : Same _ _) _ _ ?_; walk_at "hp")
  | (refine FK.tk (by assumption) (by assumption) _ _ ?_; walk_at "hp"))
local macro_rules | `(tactic| walk_at "sq") => `(tactic| first
  | assumption
  | exact FrzT.sq (by assumption)
  | (refine sqt_new (by assumption) ?_; walk_at "sq")
  | (refine sqt_same ?_ (by assumption); walk_at "sq"))
local macro_rules | `(tactic| walk_at "fz") => `(tactic| first
  | assumption
  | (refine frz_new (by assumption) ?_; walk_at "fz")
  | (refine FrzT.same ?_ (by assumption); walk_at "fz"))
local macro_rules | `(tactic| walk_at "ic") => `(tactic| first
  | ((with_reducible show (0 : Int) < _); decide)
  | exact Or.inl ⟨by decide, by decide⟩
  | exact Or.inr ⟨by decide, by decide⟩
  | exact (show (0 : Int) < _ ∧ _ < (1073741824 : Int) from ⟨by decide, by decide⟩)
  | exact (show (0 : Int) ≤ _ ∧ _ ≤ (1000000 : Int) ∧ Int.natAbs _ < 2 ^ 64 from ⟨by decide, by decide, by decide⟩)
  | exact (⟨by decide, by decide, by decide⟩ : _ ∧ _ ∧ _))
local macro_rules | `(tactic| walk_at "st") => `(tactic| first
  | with_reducible refine rd_var rfl ?_
  | with_reducible refine rd_c ?_
  | with_reducible refine rd_cons ?_
  | with_reducible refine rd_nil ?_
  | with_reducible refine rd_op ?_
  | with_reducible refine rd_cb ?_
  | with_reducible refine rd_call ?_
  | with_reducible refine rd_test ?_
  | with_reducible refine rd_B ?_
  | with_reducible refine rd_bl ?_
  | with_reducible refine rd_un ?_
  | with_reducible refine rd_and ?_
  | with_reducible refine rd_or ?_
  | with_reducible refine rd_not ?_
  | with_reducible refine rd_andV ?_
  | with_reducible refine rd_orV ?_
  | with_reducible refine rd_notV ?_
  | with_reducible refine rd_if ?_
  | with_reducible refine rd_chain ?_
  | with_reducible refine rd_I0 ?_
  | with_reducible refine rd_U ?_
  | with_reducible refine rd_eqI ?_
  | with_reducible refine rd_neI ?_
  | with_reducible refine rd_eqS ?_
  | with_reducible refine rd_neS ?_
  | with_reducible refine rd_nn ?_
  | with_reducible refine rd_asg ?_
  | with_reducible refine rd_gname ?_
  | with_reducible refine rd_seq ?_
  | with_reducible refine rd_ifS ?_
  | with_reducible refine rd_ret ?_
  | with_reducible refine rd_next ?_
  | with_reducible refine rd_cont ?_
  | with_reducible refine rd_drop ?_
  | with_reducible refine rd_par ?_
  | with_reducible refine rd_vs2 ?_
  | with_reducible refine rd_gsub ?_
  | with_reducible refine rd_gcons ?_
  | with_reducible refine rd_gnil ?_
  | with_reducible refine rd_tup ?_
  | with_reducible refine rd_lst ?_
  | with_reducible refine rd_sl ?_
  | with_reducible refine rd_part ?_
  | with_reducible refine rd_nopart ?_
  | with_reducible refine rd_i1 ?_
  | with_reducible refine rd_bm ?_
  | with_reducible refine rd_yes ?_
  | with_reducible refine rd_lcT ?_
  | with_reducible refine rd_lcL ?_
  | with_reducible refine rd_lcR1 ?_
  | with_reducible refine rd_lcS ?_
  | with_reducible refine rd_forT ?_
  | with_reducible refine rd_forL ?_
  | with_reducible refine rd_forR1 ?_
  | with_reducible refine rd_atS ?_
  | with_reducible refine rd_forEn ?_
  | with_reducible refine rd_dget ?_
  | with_reducible refine rd_din ?_
  | with_reducible refine rd_dget2 ?_
  | with_reducible refine rd_dput ?_
  | with_reducible refine rd_disp ?_
  | with_reducible refine rd_pcons ?_
  | with_reducible refine rd_pnil ?_
  | with_reducible refine rd_dcL ?_
  | with_reducible refine rd_lcEn ?_
  | with_reducible refine rd_yS ?_
  | with_reducible refine rd_m1 ?_
  | with_reducible refine rd_meth ?_
  | with_reducible refine rd_fld ?_
  | with_reducible refine rd_sfld ?_
  | with_reducible refine rd_make ?_
  | with_reducible refine rd_fmt ?_
  | with_reducible refine rd_js ?_
  | with_reducible refine rd_js0 ?_
  | with_reducible refine iteT ?_
  | with_reducible refine iteF ?_
  | ((with_reducible refine isi_int (d := ?d1) (N := ?n1) ?h1 ?_); (case h1 => assumption))
  | ((with_reducible refine isi_bool (d := ?d1) (N := ?n1) ?h1 ?_); (case h1 => assumption))
  | ((with_reducible refine isi_str (d := ?d1) (N := ?n1) ?h1 ?_); (case h1 => assumption))
  | ((with_reducible refine isi_tuple (d := ?d1) (N := ?n1) ?h1 ?_); (case h1 => assumption))
  | with_reducible refine isi_str (N := fun _ => True) (Da.str _) ?_
  | with_reducible refine isi_int (N := fun _ => True) (Da.int _) ?_
  | with_reducible refine isi_bool (N := fun _ => True) (Da.int _) ?_
  | with_reducible refine isi_str (N := fun _ => True) (Da.int _) ?_
  | ((with_reducible show (wipe _ _ = wipe _ _) ∧ _); refine ⟨rfl, ?_⟩)
  | ((with_reducible show Ends.nx _ _ _); dsimp only)
  | ((with_reducible show Ends.rt _ _ _); dsimp only)
  | ((with_reducible show Ends.ct _ _ _); dsimp only)
  | ((with_reducible refine rd_ixT (xs := ?x1) (v := ?v1) ?h1 ?e1 ?_); (case h1 => walk_at "hp"); (case e1 => rfl))
  | ((with_reducible refine rd_ixL (xs := ?x1) (v := ?v1) ?h1 ?e1 ?_); (case h1 => walk_at "hp"); (case e1 => rfl))
  | ((with_reducible refine rd_lenT (xs := ?x1) ?h1 ?_); (case h1 => walk_at "hp"))
  | ((with_reducible refine rd_lenL (xs := ?x1) ?h1 ?_); (case h1 => walk_at "hp"))
  | ((with_reducible refine rd_tupOf (xs := ?x1) ?h1 ?_); (case h1 => walk_at "hp"))
  | ((with_reducible refine rd_all (bs := ?x1) ?h1 ?_); (case h1 => walk_at "hp"))
  | ((with_reducible refine rd_atT (xs := ?x1) ?h1 ?_); (case h1 => walk_at "hp"))
  | ((with_reducible refine rd_atL (xs := ?x1) ?h1 ?_); (case h1 => walk_at "hp"))
  | ((with_reducible refine rd_gtup (xs := ?x1) ?h1 ?e1 ?_); (case h1 => walk_at "hp"); (case e1 => rfl))
  | ((with_reducible refine rd_atEn (xs := ?x1) ?h1 ?_); (case h1 => walk_at "hp"))
  | ((with_reducible refine rd_slT (xs := ?x1) ?h1 ?_); (case h1 => walk_at "hp"))
  | ((with_reducible refine rd_slL (xs := ?x1) ?h1 ?_); (case h1 => walk_at "hp"))
  | ((with_reducible refine rd_inN (N := ?x1) ?h1 ?_); (case h1 => walk_at "hp"))
  | ((with_reducible refine rd_inL (N := ?x1) ?h1 ?_); (case h1 => walk_at "hp"))
  | ((with_reducible refine rd_notInN (N := ?x1) ?h1 ?_); (case h1 => walk_at "hp"))
  | ((with_reducible refine rd_notInL (N := ?x1) ?h1 ?_); (case h1 => walk_at "hp"))
  | with_reducible refine rd_tm ?_
  | ((with_reducible refine rd_isF (xs := ?x1) ?h1 ?_); (case h1 => walk_at "fz"))
  | ((with_reducible refine rd_lenTq (xs := ?x1) ?h1 ?_); (case h1 => walk_at "sq"))
  | ((with_reducible refine rd_atTq (xs := ?x1) ?h1 ?_); (case h1 => walk_at "sq"))
  | ((with_reducible refine rd_atEnq (xs := ?x1) ?h1 ?_); (case h1 => walk_at "sq"))
  | ((with_reducible refine rd_slTq (xs := ?x1) ?h1 ?_); (case h1 => walk_at "sq"))
  | ((with_reducible refine rd_inNq (N := ?x1) ?h1 ?_); (case h1 => walk_at "sq"))
  | ((with_reducible refine rd_setL (xs := ?x1) (j := ?j1) ?h1 ?e1 ?_); (case h1 => walk_at "hp"); (case e1 => rfl))
  | with_reducible refine rd_int1 ?_
  | with_reducible refine rd_x1 ?_
  | with_reducible refine rd_x2 ?_
  | ((with_reducible refine rd_tyL (xs := ?x1) ?h1 ?_); (case h1 => walk_at "hp"))
  | ((with_reducible refine rd_ixsL (xs := ?x1) (v := ?v1) ?h1 ?e1 ?_); (case h1 => walk_at "hp"); (case e1 => rfl))
  | ((with_reducible refine rd_ixsT (xs := ?x1) (v := ?v1) ?h1 ?e1 ?_); (case h1 => walk_at "hp"); (case e1 => rfl))
  | ((with_reducible refine rd_I ?c1 ?_); (case c1 => walk_at "ic"))
  | ((with_reducible refine if_t ?hb1 ?_); (case hb1 => rfl))
  | ((with_reducible refine if_f ?hb1 ?_); (case hb1 => rfl)))
local macro_rules | `(tactic| walk_at "go") => `(tactic| repeat (first | walk_at "st" | dsimp only))
section
variable {P : Program} {w : World} {K : Frag} {mg : Str → Option Value} {base : Heap}

abbrev N_sum_of : List Str := ["arcs", "arc"]
theorem sc_sum_of : FnScope N_sum_of ["arcs"] (defScope s_sum_of) := ⟨rfl, rfl, rfl, by decide +kernel, rfl, by decide +kernel, by decide +kernel⟩
def sp_sum_of (K : Frag) : Sp := fun vs H Q _ => ∃ l as, ∃ N : List Str, ∃ rs, vs = [.ref l] ∧ H l = some (.lst (as.map V.ref)) ∧ PtAt (endsV N) H as rs ∧ rs.length ≤ 1000 ∧ ∀ H', Same H H' → Q (.int (rs.map Rl.bd).sum) H'
theorem c_sum_of (S : Sys K mg) : C8.Cal P w K mg base 1 "sum_of" (sp_sum_of K) [] := by
  refine calD S.f_D_sum_of S.g_sum_of sc_sum_of (fun _ _ _ _ _ _ us hl => match us, hl with | [_], _ => rfl) ?_ ?_
  · rintro vs H Q E ⟨_, _, _, _, rfl, _⟩
    rfl
  · rintro cdv A outer s H vs Q E hr ⟨l, as, N, rs, rfl, hl, pt, le, q⟩
    refine ⟨_, pss_one (ps_ret (pe_callB (cr_sumC (K := K) rfl rfl) (by rfl) S.n_sum (by decide +kernel) (pa_cons (pe_lc (own := [("arc", 1)]) (g := gName 1) (tt := tYes) rfl sc_sum_of.nd (pi_listC (K := K) rfl (pv 0)) (blkOk_by (N := N_sum_of) (sc := defScope s_sum_of) (by decide +kernel)) (fun _ _ _ _ _ => (pg_name (i := 1) sc_sum_of.nd rfl (Or.inl rfl))) (fun _ _ _ _ _ => pts_nil) (fun _ _ _ _ _ => (pe_ix (ix_tupC (K := K) rfl) (pv 1) pe_int (fun _ _ => rfl)))) pa_nil))), ?_⟩
    have ll := pt.len
    walk_at "go"
    refine lcM (n := rs.length) (G := fun H => SqL K H l (as.map V.ref)) (Y := YAt (as.map V.ref)) (ll ▸ walk_list) ((rs.map Rl.bd).map V.int) (by simp) (by omega) (fun H1 s => .inl (.inl (s _ _ hl))) (fun j x H1 H1' y hj s hY hy Qy Qn hQ => ?_) fun L H1 hL s e => ?_
    · obtain ⟨rfl, hx⟩ := hY
      obtain ⟨b, r, rfl, hb1, hb2, hb3⟩ := (pt.same s).get hx
      rw [List.getElem?_map, List.getElem?_map, hb2] at hy
      cases hy
      unfold endsV at hb3
      walk_at "go"
      exact hQ _ (Same.refl _)
    · walk_at "go"
      exact ⟨L, rs.map Rl.bd, rfl, .inl (.inl e), q _ s⟩
abbrev N_lies_on : List Str := ["form", "field", "value", "arcs", "arc"]
theorem sc_lies_on : FnScope N_lies_on ["form", "field", "value"] (defScope s_lies_on) := ⟨rfl, rfl, rfl, by decide +kernel, rfl, by decide +kernel, by decide +kernel⟩
theorem inV_ints (i : Int) (ns : List Int) : inV (.int i) (ns.map V.int) = decide (i ∈ ns) := by
  induction ns with
  | nil => rfl
  | cons a ns ih =>
    have e : inV (.int i) ((a :: ns).map V.int) = (eqV (.int a) (.int i) || inV (.int i) (ns.map V.int)) := rfl
    rw [e, ih]
    have e2 : eqV (.int a) (.int i) = decide (i = a) := by
      show (a == i) = _
      by_cases h : a = i
      · rw [h, decide_eq_true rfl, beq_self_eq_true]
      · rw [decide_eq_false fun q => h q.symm]
        exact beq_eq_false_iff_ne.mpr h
    rw [e2]
    by_cases h : i = a
    · rw [decide_eq_true h, decide_eq_true (List.mem_cons.mpr (.inl h)), Bool.true_or]
    · rw [decide_eq_false h, Bool.false_or]
      by_cases h2 : i ∈ ns
      · rw [decide_eq_true h2, decide_eq_true (List.mem_cons.mpr (.inr h2))]
      · rw [decide_eq_false h2, decide_eq_false fun q => (List.mem_cons.mp q).elim h h2]
theorem flat_ints (ns : List Int) : (ns.map V.int).all flatV = true := by
  induction ns with
  | nil => rfl
  | cons a N ih =>
    show (flatV (.int a) && _) = true
    rw [ih] <;> rfl
theorem rd_inI {H : Hp} {p : Addr} {Q : VK} {i : Int} {ns : List Int} (h : H p = some (.lst (ns.map V.int))) (q : Q (.bl (decide (i ∈ ns))) H) : rIn K false (.int i) (.ref p) H Q :=
  ⟨p, _, rfl, .inl (.inl (.inl h)), rfl, flat_ints ns, by rw [if_neg Bool.false_ne_true, inV_ints]; exact q⟩
theorem hi_mem {N : List Str} {rs : List Rl} (ok : ∀ r ∈ rs, RlOk N r) {t : Str} (ht : t ∈ N) (nt : t ≠ eS) : decide ((1 + (ixOf t N : Int)) ∈ rs.map fun r => ((posN N r.hi : Nat) : Int)) = decide (t ∈ rs.map Rl.hi) := by
  have e : (1 + (ixOf t N : Int)) ∈ (rs.map fun r => ((posN N r.hi : Nat) : Int)) ↔ t ∈ rs.map Rl.hi := by
    rw [List.mem_map, List.mem_map]
    constructor
    · rintro ⟨r, hr, e⟩
      refine ⟨r, hr, posN_inj (ok _ hr).hi (List.mem_cons_of_mem _ ht) ?_⟩
      have := posN_s (N := N) nt
      omega
    · rintro ⟨r, hr, e⟩
      refine ⟨r, hr, ?_⟩
      rw [e]
      exact posN_s nt
  by_cases g : t ∈ rs.map Rl.hi
  · rw [decide_eq_true g, decide_eq_true (e.mpr g)]
  · rw [decide_eq_false g, decide_eq_false fun z => g (e.mp z)]
theorem ring_some {R : List Rl} {d : PyData} {rs : List Rl} (h : ringD R d = some rs) : spotsR R d = some rs ∧ ringB rs = true := by
  unfold ringD at h
  cases hs : spotsR R d with
  | none =>
    rw [hs] at h
    cases h
  | some rs' =>
    rw [hs] at h
    have h : (if ringB rs' = true then some rs' else none) = some rs := h
    by_cases g : ringB rs' = true
    · rw [if_pos g] at h
      cases h
      exact ⟨rfl, g⟩
    · rw [if_neg g] at h
      cases h
def sp_lies_on (K : Frag) : Sp := fun vs H Q _ => ∃ o v, ∃ t : Str, ∃ N : List Str, ∃ R Nn d, vs = [.ref o, .str t, v] ∧ t ∈ N ∧ FormP K H o N R ∧ FormOk N R ∧ Da Nn H v d ∧ (∀ ds, d = .tuple ds → ds.length ≤ 1000) ∧ ∀ H', Same H H' → Q (.bl (liesB R t d)) H'
theorem c_lies_on (S : Sys K mg) : C8.Cal P w K mg base 5 "lies_on" (sp_lies_on K) [] := by
  refine calD S.f_D_lies_on S.g_lies_on sc_lies_on (fun _ _ _ _ _ _ us hl => match us, hl with | [_, _, _], _ => rfl) ?_ ?_
  · rintro vs H Q E ⟨_, _, _, _, _, _, _, rfl, _⟩
    rfl
  · rintro cdv A outer s H vs Q E hr ⟨o, v, t, N, R, Nn, d, rfl, ht, hF, ok, hd, hl, q⟩
    refine ⟨_, pss_cons (ps_set (i := 3) sc_lies_on.nd rfl (Or.inl rfl) (C8.pe_c (c_ring_in (K := K) S) hr (by decide) rfl (pa_cons (pv 0) (pa_cons (pv 2) pa_nil))))
      (pss_cons (ps_if (PW.pt (pw_or (pt_cmpR op_isN (pv 3) pe_non (nomark _)) (pw_or1 (pt_cmpR op_ne (C8.pe_c (c_sum_of (K := K) S) hr (by decide) rfl (pa_cons (pv 3) pa_nil)) pe_int (nomark _))))) (pss_one (ps_ret pe_bl)) pss_nil)
      (pss_one (ps_ret (pe_cmpR (op_in_seqC (K := K) rfl) (pe_op op_add pe_int (pe_tm PySem.F.plainAttrs_tuple PySem.F.slot_tuple_index PySem.F.type_tuple_index (mt_tup_indexC (K := K) rfl) (pe_fldC (K := K) rfl (pv 0) rfl) (pa_cons (pv 1) pa_nil))) (pe_lc (own := [("arc", 4)]) (g := gName 4) (tt := tYes) rfl sc_lies_on.nd (pi_listC (K := K) rfl (pv 3)) (blkOk_by (N := N_lies_on) (sc := defScope s_lies_on) (by decide +kernel)) (fun _ _ _ _ _ => (pg_name (i := 4) sc_lies_on.nd rfl (Or.inl rfl))) (fun _ _ _ _ _ => pts_nil) (fun _ _ _ _ _ => (pe_ix (ix_tupC (K := K) rfl) (pv 4) pe_int (fun _ _ => rfl)))) rfl)))), ?_⟩
    walk_at "go"
    refine ⟨o, v, N, R, Nn, d, rfl, hF, ok, hd, hl, fun H1 x s1 hx => ?_⟩
    unfold liesB at q
    cases hs : ringD R d with
    | none =>
      rw [hs] at hx q
      cases hx
      walk_at "go"
      exact q _ s1
    | some rs =>
      rw [hs] at hx q
      obtain ⟨l, as, rfl, hl1, pt⟩ := hx
      obtain ⟨hsp, _⟩ := ring_some hs
      obtain ⟨okr, _⟩ := spots_ok ok.rl hsp
      have rl := spots_len hsp hl
      have ll := pt.len
      walk_at "go"
      refine ⟨l, as, N, rs, rfl, hl1, pt, rl, fun H2 s2 => ?_⟩
      have s12 := Same.trans s1 s2
      have pt2 := pt.same s2
      have hl2 := s2 _ _ hl1
      have q : ∀ H', Same H H' → Q (.bl (decide ((rs.map Rl.bd).sum = 0) && decide (t ∈ rs.map Rl.hi))) H' := q
      walk_at "go"
      refine ifb (fun h => ?_) fun h => ?_
      · walk_at "go"
        have hz : decide ((rs.map Rl.bd).sum = 0) = false := by simpa using h
        rw [hz, Bool.false_and] at q
        exact q _ s12
      have hz : decide ((rs.map Rl.bd).sum = 0) = true := by simpa using h
      rw [hz, Bool.true_and] at q
      obtain ⟨pf, hpf, fld⟩ := hF.fld S
      walk_at "go"
      refine fld s12 ?_
      have hpf2 := hpf.same s12
      walk_at "go"
      refine ⟨pf, N, t, ixOf t N, rfl, rfl, hpf2.sq, (ixOf_get ht).1, (ixOf_get ht).2, ?_⟩
      walk_at "go"
      refine lcM (n := rs.length) (G := fun H => SqL K H l (as.map V.ref)) (Y := YAt (as.map V.ref)) (ll ▸ walk_list) ((rs.map fun r => ((posN N r.hi : Nat) : Int)).map V.int) (by simp) (by omega) (fun H1 s => .inl (.inl (s _ _ hl2))) (fun j x H1 H1' y hj s hY hy Qy Qn hQ => ?_) fun L H1 hL s e => ?_
      · obtain ⟨rfl, hx⟩ := hY
        obtain ⟨b, r, rfl, hb1, hb2, hb3⟩ := (pt2.same s).get hx
        rw [List.getElem?_map, List.getElem?_map, hb2] at hy
        cases hy
        unfold endsV at hb3
        walk_at "go"
        exact hQ _ (Same.refl _)
      · refine rd_inI e ?_
        rw [hi_mem okr ht (ok.ne t ht)]
        walk_at "go"
        exact q _ (Same.trans s12 s)
abbrev N_apart_shown : List Str := ["form", "first", "second", "certificate", "place"]
theorem sc_apart_shown : FnScope N_apart_shown ["form", "first", "second", "certificate"] (defScope s_apart_shown) := ⟨rfl, rfl, rfl, by decide +kernel, rfl, by decide +kernel, by decide +kernel⟩
def apartB (N : List Str) (R : List Rl) (ns ms : List Int) : PyData → Bool
  | .tuple [.str t, e] => decide (t ∈ N) && (!decide (cell ns (posN N t) = cell ms (posN N t)) && liesB R t e)
  | _ => false
theorem cell_ix {ns : List Int} {N : List Str} {t : Str} (ht : t ∈ N) (nt : t ≠ eS) (hn : ns.length = N.length) : atI (ns.map V.int) ((ixOf t N : Nat) : Int) = some (.int (cell ns (posN N t))) := by
  refine atI_nat ?_
  have hi : ixOf t N < ns.length := hn ▸ ixOf_lt ht
  have e : cell ns (posN N t) = ns[ixOf t N] := by
    rw [cell, posN, if_neg nt, Nat.add_comm, List.getElem?_cons_succ, List.getElem?_eq_getElem hi] <;> rfl
  rw [e, List.getElem?_map, List.getElem?_eq_getElem hi] <;> rfl
def sp_apart_shown (K : Frag) : Sp := fun vs H Q _ => ∃ o f1 f2 v, ∃ N : List Str, ∃ R, ∃ ns ms : List Int, ∃ Nn d, vs = [.ref o, .ref f1, .ref f2, v] ∧ FormP K H o N R ∧ FormOk N R ∧ H f1 = some (.tup (ns.map V.int)) ∧ H f2 = some (.tup (ms.map V.int)) ∧ ns.length = N.length ∧ ms.length = N.length ∧
  Da Nn H v d ∧ (∀ t e, d = .tuple [t, e] → ∀ ds, e = .tuple ds → ds.length ≤ 1000) ∧ ∀ H', Same H H' → Q (.bl (apartB N R ns ms d)) H'
theorem c_apart_shown (S : Sys K mg) : C8.Cal P w K mg base 6 "apart_shown" (sp_apart_shown K) [] := by
  refine calD S.f_D_apart_shown S.g_apart_shown sc_apart_shown (fun _ _ _ _ _ _ us hl => match us, hl with | [_, _, _, _], _ => rfl) ?_ ?_
  · rintro vs H Q E ⟨_, _, _, _, _, _, _, _, _, _, rfl, _⟩
    rfl
  · rintro cdv A outer s H vs Q E hr ⟨o, f1, f2, v, N, R, ns, ms, Nn, d, rfl, hF, ok, h1, h2, n1, n2, hd, hl, q⟩
    refine ⟨_, pss_cons (ps_if (PW.pt (pw_or (pt_not (pt_val (pe_callB (call_isiC (K := K) rfl) (by rfl) S.n_isinstance (by decide +kernel) (pa_cons (pv 3) (pa_cons (pe_bltn (v := .ty "tuple") (by rfl) S.n_tuple (by decide +kernel) rfl) pa_nil))))) (pw_or (pt_cmpR op_ne (pe_callB (call_len_seqC (K := K) rfl) (by rfl) S.n_len (by decide +kernel) (pa_cons (pv 3) pa_nil)) pe_int (nomark _)) (pw_or1 (pt_not (pt_val (C8.pe_c (c_is_field (K := K) S) hr (by decide) rfl (pa_cons (pv 0) (pa_cons (pe_ix (ix_tupC (K := K) rfl) (pv 3) pe_int (fun _ _ => rfl)) pa_nil))))))))) (pss_one (ps_ret pe_bl)) pss_nil)
      (pss_cons (ps_set (i := 4) sc_apart_shown.nd rfl (Or.inl rfl) (pe_tm PySem.F.plainAttrs_tuple PySem.F.slot_tuple_index PySem.F.type_tuple_index (mt_tup_indexC (K := K) rfl) (pe_fldC (K := K) rfl (pv 0) rfl) (pa_cons (pe_ix (ix_tupC (K := K) rfl) (pv 3) pe_int (fun _ _ => rfl)) pa_nil)))
      (pss_one (ps_ret (pe_and (pe_cmpR op_ne (pe_ix (ix_tupC (K := K) rfl) (pv 1) (pv 4) (fun _ _ => rfl)) (pe_ix (ix_tupC (K := K) rfl) (pv 2) (pv 4) (fun _ _ => rfl)) (nomark _)) (pe_one (C8.pe_c (c_lies_on (K := K) S) hr (by decide) rfl (pa_cons (pv 0) (pa_cons (pe_ix (ix_tupC (K := K) rfl) (pv 3) pe_int (fun _ _ => rfl)) (pa_cons (pe_ix (ix_tupC (K := K) rfl) (pv 3) pe_int (fun _ _ => rfl)) pa_nil))))))))), ?_⟩
    walk_at "go"
    refine ifb (fun h => ?_) fun h => ?_
    · have e : apartB N R ns ms d = false := by cases d <;> first | rfl | cases h
      walk_at "go"
      rw [e] at q
      exact q _ (Same.refl _)
    · cases d with
      | tuple ds =>
        obtain ⟨a, xs, rfl, ha, hda⟩ := hd.tupInv
        have hlen := hda.len
        walk_at "go"
        refine ifb (fun h2' => ?_) fun h2' => ?_
        · have e : apartB N R ns ms (.tuple ds) = false := by
            rw [hlen] at h2'
            match ds with
            | [] => rfl
            | [d1] => cases d1 <;> rfl
            | [_, _] => cases h2'
            | d1 :: _ :: _ :: _ => cases d1 <;> rfl
          walk_at "go"
          rw [e] at q
          exact q _ (Same.refl _)
        · rw [hlen] at h2'
          match ds, h2' with
          | [], z => cases z
          | [_], z => cases z
          | _ :: _ :: _ :: _, z =>
            exfalso
            simp at z
            omega
          | [t, e], _ =>
            cases hda with
            | @cons vt _ _ _ ht hda =>
              cases hda with
              | @cons ve _ _ _ he hda =>
                cases hda
                walk_at "go"
                refine ⟨o, vt, N, R, Nn, t, rfl, hF, ht, ?_⟩
                walk_at "go"
                refine ifb (fun h3 => ?_) fun h3 => ?_
                · have hf : fieldB N t = false := by simpa using h3
                  have e4 : apartB N R ns ms (.tuple [t, e]) = false := by
                    cases t with
                    | str z =>
                      have hf : decide (z ∈ N) = false := hf
                      show (decide (z ∈ N) && _) = false
                      rw [hf, Bool.false_and]
                    | _ => rfl
                  walk_at "go"
                  rw [e4] at q
                  exact q _ (Same.refl _)
                · have hf : fieldB N t = true := by simpa using h3
                  cases t with
                  | str z =>
                    have hz : z ∈ N := of_decide_eq_true hf
                    have nz := ok.ne z hz
                    cases ht
                    have q : ∀ H', Same H H' → Q (.bl (decide (z ∈ N) && (!decide (cell ns (posN N z) = cell ms (posN N z)) && liesB R z e))) H' := q
                    rw [decide_eq_true hz, Bool.true_and] at q
                    obtain ⟨pf, hpf, fld⟩ := hF.fld S
                    walk_at "go"
                    refine fld (Same.refl _) ?_
                    walk_at "go"
                    refine ⟨pf, N, z, ixOf z N, rfl, rfl, hpf.sq, (ixOf_get hz).1, (ixOf_get hz).2, ?_⟩
                    walk_at "go"
                    refine rd_ixT h1 (cell_ix hz nz n1) ?_
                    walk_at "go"
                    refine rd_ixT h2 (cell_ix hz nz n2) ?_
                    walk_at "go"
                    refine ifb (fun h5 => ?_) fun h5 => ?_
                    · rw [h5, Bool.true_and] at q
                      walk_at "go"
                      exact ⟨o, ve, z, N, R, Nn, e, rfl, hz, hF, ok, he, hl _ e rfl, q⟩
                    · rw [h5, Bool.false_and] at q
                      exact q _ (Same.refl _)
                  | _ => cases hf
      | _ => cases h
end
end K59
/-! K59P12 -/
set_option Elab.async false
set_option linter.all false
set_option maxRecDepth 100000
set_option maxHeartbeats 4000000
namespace K59
open PySem PySem.W PySem.Calls PySem.Spec PyProof.Rows L2
local macro_rules | `(tactic| walk_at "hp") => `(tactic| first
  | assumption
  | exact upd_same
  | (refine same_new (by assumption) _ _ ?_; walk_at "hp")
  | (refine (by assumption : Same _ _) _ _ ?_; walk_at "hp")
  | (refine FK.tk (by assumption) (by assumption) _ _ ?_; walk_at "hp"))
local macro_rules | `(tactic| walk_at "sq") => `(tactic| first
  | assumption
  | exact FrzT.sq (by assumption)
  | (refine sqt_new (by assumption) ?_; walk_at "sq")
  | (refine sqt_same ?_ (by assumption); walk_at "sq"))
local macro_rules | `(tactic| walk_at "fz") => `(tactic| first
  | assumption
  | (refine frz_new (by assumption) ?_; walk_at "fz")
  | (refine FrzT.same ?_ (by assumption); walk_at "fz"))
local macro_rules | `(tactic| walk_at "ic") => `(tactic| first
  | ((with_reducible show (0 : Int) < _); decide)
  | exact Or.inl ⟨by decide, by decide⟩
  | exact Or.inr ⟨by decide, by decide⟩
  | exact (show (0 : Int) < _ ∧ _ < (1073741824 : Int) from ⟨by decide, by decide⟩)
  | exact (show (0 : Int) ≤ _ ∧ _ ≤ (1000000 : Int) ∧ Int.natAbs _ < 2 ^ 64 from ⟨by decide, by decide, by decide⟩)
  | exact (⟨by decide, by decide, by decide⟩ : _ ∧ _ ∧ _))
local macro_rules | `(tactic| walk_at "st") => `(tactic| first
  | with_reducible refine rd_var rfl ?_
  | with_reducible refine rd_c ?_
  | with_reducible refine rd_cons ?_
  | with_reducible refine rd_nil ?_
  | with_reducible refine rd_op ?_
  | with_reducible refine rd_cb ?_
  | with_reducible refine rd_call ?_
  | with_reducible refine rd_test ?_
  | with_reducible refine rd_B ?_
  | with_reducible refine rd_bl ?_
  | with_reducible refine rd_un ?_
  | with_reducible refine rd_and ?_
  | with_reducible refine rd_or ?_
  | with_reducible refine rd_not ?_
  | with_reducible refine rd_andV ?_
  | with_reducible refine rd_orV ?_
  | with_reducible refine rd_notV ?_
  | with_reducible refine rd_if ?_
  | with_reducible refine rd_chain ?_
  | with_reducible refine rd_I0 ?_
  | with_reducible refine rd_U ?_
  | with_reducible refine rd_eqI ?_
  | with_reducible refine rd_neI ?_
  | with_reducible refine rd_eqS ?_
  | with_reducible refine rd_neS ?_
  | with_reducible refine rd_nn ?_
  | with_reducible refine rd_asg ?_
  | with_reducible refine rd_gname ?_
  | with_reducible refine rd_seq ?_
  | with_reducible refine rd_ifS ?_
  | with_reducible refine rd_ret ?_
  | with_reducible refine rd_next ?_
  | with_reducible refine rd_cont ?_
  | with_reducible refine rd_drop ?_
  | with_reducible refine rd_par ?_
  | with_reducible refine rd_vs2 ?_
  | with_reducible refine rd_gsub ?_
  | with_reducible refine rd_gcons ?_
  | with_reducible refine rd_gnil ?_
  | with_reducible refine rd_tup ?_
  | with_reducible refine rd_lst ?_
  | with_reducible refine rd_sl ?_
  | with_reducible refine rd_part ?_
  | with_reducible refine rd_nopart ?_
  | with_reducible refine rd_i1 ?_
  | with_reducible refine rd_bm ?_
  | with_reducible refine rd_yes ?_
  | with_reducible refine rd_lcT ?_
  | with_reducible refine rd_lcL ?_
  | with_reducible refine rd_lcR1 ?_
  | with_reducible refine rd_lcS ?_
  | with_reducible refine rd_forT ?_
  | with_reducible refine rd_forL ?_
  | with_reducible refine rd_forR1 ?_
  | with_reducible refine rd_atS ?_
  | with_reducible refine rd_forEn ?_
  | with_reducible refine rd_dget ?_
  | with_reducible refine rd_din ?_
  | with_reducible refine rd_dget2 ?_
  | with_reducible refine rd_dput ?_
  | with_reducible refine rd_disp ?_
  | with_reducible refine rd_pcons ?_
  | with_reducible refine rd_pnil ?_
  | with_reducible refine rd_dcL ?_
  | with_reducible refine rd_lcEn ?_
  | with_reducible refine rd_yS ?_
  | with_reducible refine rd_m1 ?_
  | with_reducible refine rd_meth ?_
  | with_reducible refine rd_fld ?_
  | with_reducible refine rd_sfld ?_
  | with_reducible refine rd_make ?_
  | with_reducible refine rd_fmt ?_
  | with_reducible refine rd_js ?_
  | with_reducible refine rd_js0 ?_
  | with_reducible refine iteT ?_
  | with_reducible refine iteF ?_
  | ((with_reducible refine isi_int (d := ?d1) (N := ?n1) ?h1 ?_); (case h1 => assumption))
  | ((with_reducible refine isi_bool (d := ?d1) (N := ?n1) ?h1 ?_); (case h1 => assumption))
  | ((with_reducible refine isi_str (d := ?d1) (N := ?n1) ?h1 ?_); (case h1 => assumption))
  | ((with_reducible refine isi_tuple (d := ?d1) (N := ?n1) ?h1 ?_); (case h1 => assumption))
  | with_reducible refine isi_str (N := fun _ => True) (Da.str _) ?_
  | with_reducible refine isi_int (N := fun _ => True) (Da.int _) ?_
  | with_reducible refine isi_bool (N := fun _ => True) (Da.int _) ?_
  | with_reducible refine isi_str (N := fun _ => True) (Da.int _) ?_
  | ((with_reducible show (wipe _ _ = wipe _ _) ∧ _); refine ⟨rfl, ?_⟩)
  | ((with_reducible show Ends.nx _ _ _); dsimp only)
  | ((with_reducible show Ends.rt _ _ _); dsimp only)
  | ((with_reducible show Ends.ct _ _ _); dsimp only)
  | ((with_reducible refine rd_ixT (xs := ?x1) (v := ?v1) ?h1 ?e1 ?_); (case h1 => walk_at "hp"); (case e1 => rfl))
  | ((with_reducible refine rd_ixL (xs := ?x1) (v := ?v1) ?h1 ?e1 ?_); (case h1 => walk_at "hp"); (case e1 => rfl))
  | ((with_reducible refine rd_lenT (xs := ?x1) ?h1 ?_); (case h1 => walk_at "hp"))
  | ((with_reducible refine rd_lenL (xs := ?x1) ?h1 ?_); (case h1 => walk_at "hp"))
  | ((with_reducible refine rd_tupOf (xs := ?x1) ?h1 ?_); (case h1 => walk_at "hp"))
  | ((with_reducible refine rd_all (bs := ?x1) ?h1 ?_); (case h1 => walk_at "hp"))
  | ((with_reducible refine rd_atT (xs := ?x1) ?h1 ?_); (case h1 => walk_at "hp"))
  | ((with_reducible refine rd_atL (xs := ?x1) ?h1 ?_); (case h1 => walk_at "hp"))
  | ((with_reducible refine rd_gtup (xs := ?x1) ?h1 ?e1 ?_); (case h1 => walk_at "hp"); (case e1 => rfl))
  | ((with_reducible refine rd_atEn (xs := ?x1) ?h1 ?_); (case h1 => walk_at "hp"))
  | ((with_reducible refine rd_slT (xs := ?x1) ?h1 ?_); (case h1 => walk_at "hp"))
  | ((with_reducible refine rd_slL (xs := ?x1) ?h1 ?_); (case h1 => walk_at "hp"))
  | ((with_reducible refine rd_inN (N := ?x1) ?h1 ?_); (case h1 => walk_at "hp"))
  | ((with_reducible refine rd_inL (N := ?x1) ?h1 ?_); (case h1 => walk_at "hp"))
  | ((with_reducible refine rd_notInN (N := ?x1) ?h1 ?_); (case h1 => walk_at "hp"))
  | ((with_reducible refine rd_notInL (N := ?x1) ?h1 ?_); (case h1 => walk_at "hp"))
  | with_reducible refine rd_tm ?_
  | ((with_reducible refine rd_isF (xs := ?x1) ?h1 ?_); (case h1 => walk_at "fz"))
  | ((with_reducible refine rd_lenTq (xs := ?x1) ?h1 ?_); (case h1 => walk_at "sq"))
  | ((with_reducible refine rd_atTq (xs := ?x1) ?h1 ?_); (case h1 => walk_at "sq"))
  | ((with_reducible refine rd_atEnq (xs := ?x1) ?h1 ?_); (case h1 => walk_at "sq"))
  | ((with_reducible refine rd_slTq (xs := ?x1) ?h1 ?_); (case h1 => walk_at "sq"))
  | ((with_reducible refine rd_inNq (N := ?x1) ?h1 ?_); (case h1 => walk_at "sq"))
  | ((with_reducible refine rd_setL (xs := ?x1) (j := ?j1) ?h1 ?e1 ?_); (case h1 => walk_at "hp"); (case e1 => rfl))
  | with_reducible refine rd_int1 ?_
  | with_reducible refine rd_x1 ?_
  | with_reducible refine rd_x2 ?_
  | ((with_reducible refine rd_tyL (xs := ?x1) ?h1 ?_); (case h1 => walk_at "hp"))
  | ((with_reducible refine rd_ixsL (xs := ?x1) (v := ?v1) ?h1 ?e1 ?_); (case h1 => walk_at "hp"); (case e1 => rfl))
  | ((with_reducible refine rd_ixsT (xs := ?x1) (v := ?v1) ?h1 ?e1 ?_); (case h1 => walk_at "hp"); (case e1 => rfl))
  | ((with_reducible refine rd_I ?c1 ?_); (case c1 => walk_at "ic"))
  | ((with_reducible refine if_t ?hb1 ?_); (case hb1 => rfl))
  | ((with_reducible refine if_f ?hb1 ?_); (case hb1 => rfl)))
local macro_rules | `(tactic| walk_at "go") => `(tactic| repeat (first | walk_at "st" | dsimp only))
section
variable {P : Program} {w : World} {K : Frag} {mg : Str → Option Value} {base : Heap}

abbrev N_pair_shown : List Str := ["word", "form", "first", "second", "certificate"]
theorem sc_pair_shown : FnScope N_pair_shown ["word", "form", "first", "second", "certificate"] (defScope s_pair_shown) := ⟨rfl, rfl, rfl, by decide +kernel, rfl, by decide +kernel, by decide +kernel⟩
def sp_pair_shown (K : Frag) : Sp := fun vs H Q _ => ∃ o f1 f2 v, ∃ N : List Str, ∃ R, ∃ ns ms : List Int, ∃ Nn d, vs = [.str "apart", .ref o, .ref f1, .ref f2, v] ∧ FormP K H o N R ∧ FormOk N R ∧ H f1 = some (.tup (ns.map V.int)) ∧ H f2 = some (.tup (ms.map V.int)) ∧ ns.length = N.length ∧ ms.length = N.length ∧
  Da Nn H v d ∧ (∀ t e, d = .tuple [t, e] → ∀ ds, e = .tuple ds → ds.length ≤ 1000) ∧ ∀ H', Same H H' → Q (.bl (apartB N R ns ms d)) H'
theorem c_pair_shown (S : Sys K mg) : C8.Cal P w K mg base 7 "pair_shown" (sp_pair_shown K) [] := by
  refine calD S.f_D_pair_shown S.g_pair_shown sc_pair_shown (fun _ _ _ _ _ _ us hl => match us, hl with | [_, _, _, _, _], _ => rfl) ?_ ?_
  · rintro vs H Q E ⟨_, _, _, _, _, _, _, _, _, _, rfl, _⟩
    rfl
  · rintro cdv A outer s H vs Q E hr ⟨o, f1, f2, v, N, R, ns, ms, Nn, d, rfl, hF, ok, h1, h2, n1, n2, hd, hl, q⟩
    refine ⟨_, pss_cons (ps_if (pt_cmpR op_eq (pv 0) pe_str (nomark _)) pss_never pss_nil)
      (pss_cons (ps_if (pt_cmpR op_eq (pv 0) pe_str (nomark _)) (pss_one (ps_ret (C8.pe_c (c_apart_shown (K := K) S) hr (by decide) rfl (pa_cons (pv 1) (pa_cons (pv 2) (pa_cons (pv 3) (pa_cons (pv 4) pa_nil))))))) pss_nil) pss_never), ?_⟩
    walk_at "go"
    exact ⟨o, f1, f2, v, N, R, ns, ms, Nn, d, rfl, hF, ok, h1, h2, n1, n2, hd, hl, q⟩
abbrev N_holds_claim : List Str := ["claim", "certificate", "parts", "form", "rest"]
theorem sc_holds_claim : FnScope N_holds_claim ["claim", "certificate"] (defScope s_holds_claim) := ⟨rfl, rfl, rfl, by decide +kernel, rfl, by decide +kernel, by decide +kernel⟩
def numsOf : PyData → List Int
  | .tuple ds => ds.map intOf
  | _ => []
def claimB (N : List Str) (R : List Rl) (d1 d2 d : PyData) : Bool := goodB N R d1 && (goodB N R d2 && apartB N R (numsOf d1) (numsOf d2) d)
theorem good_at {N : List Str} {R : List Rl} {Nn : Addr → Prop} {H : Hp} {v : V} {d : PyData} (g : goodB N R d = true) (h : Da Nn H v d) : ∃ a, v = .ref a ∧ H a = some (.tup ((numsOf d).map V.int)) ∧ (numsOf d).length = N.length := by
  cases d with
  | tuple ds =>
    have g : (areVals N.length (.tuple ds) && _) = true := g
    rw [Bool.and_eq_true] at g
    have h3 : (decide (ds.length = N.length) && ds.all (btwD (-1000000000) 1000000000)) = true := g.1
    rw [Bool.and_eq_true] at h3
    have hds := all_btw h3.2
    obtain ⟨a, xs, rfl, ha, hda⟩ := h.tupInv
    rw [hds] at hda
    have hxs := hda.ofInts
    subst hxs
    exact ⟨a, rfl, ha, by
      show (ds.map intOf).length = _
      rw [List.length_map]
      exact of_decide_eq_true h3.1⟩
  | _ => cases g
def wordsL : List Str := ["empty", "frozen", "implied", "comes", "apart", "order", "knot"]
theorem Sys.wordsN (S : Sys K mg) (H : Hp) : SqT K H (He.ga K "WORDS") (wordsL.map V.str) := S.words H
theorem rd_notInNq {H : Hp} {p : Addr} {Q : VK} {z : Str} {N : List Str} (h : SqT K H p (N.map V.str)) (q : Q (.bl (!decide (z ∈ N))) H) : rIn K true (.str z) (.ref p) H Q :=
  ⟨p, _, rfl, .inr h, rfl, flat_names N, by rw [if_pos rfl, inV_names]; exact q⟩
def sp_holds_claim : Sp := fun vs H Q _ => ∃ c v v1 v2, ∃ N : List Str, ∃ R, ∃ Nn d1 d2 d, vs = [.ref c, v] ∧ H c = some (.tup [.str "apart", .str (pageS N R), v1, v2]) ∧ FormOk N R ∧ Da Nn H v1 d1 ∧ Da Nn H v2 d2 ∧ Da Nn H v d ∧ (∀ ds, d1 = .tuple ds → ds.length ≤ 1000) ∧ (∀ ds, d2 = .tuple ds → ds.length ≤ 1000) ∧
  (∀ t e, d = .tuple [t, e] → ∀ ds, e = .tuple ds → ds.length ≤ 1000) ∧ ∀ H', Same H H' → Q (.bl (claimB N R d1 d2 d)) H'
theorem calF {x : Str} {st : Stmt} {N ps : List Str} {k : Nat} {sp : Sp} {f : Addr} (F : ∃ fd, FunD K x x (defArgs st) (defBody st) (defScope st) [] [] f fd) (S : FnScope N ps (defScope st))
    (len : ∀ vs H Q E, sp vs H Q E → vs.length = ps.length) (hb : BodyOk P w K mg base k x st N f sp) : ∃ fd, FunD K x x (defArgs st) (defBody st) (defScope st) [] [] f fd ∧ FnOk P w K mg base C8.CX0 (k + 1) f fd ps sp := by
  obtain ⟨fd, F⟩ := F
  exact ⟨fd, F, fnD F S len hb⟩
theorem f_holds_claim (S : Sys K mg) : ∃ fd, FunD K "holds_claim" "holds_claim" (defArgs s_holds_claim) (defBody s_holds_claim) (defScope s_holds_claim) [] [] (He.ga K "holds_claim") fd ∧ FnOk P w K mg base C8.CX0 8 (He.ga K "holds_claim") fd ["claim", "certificate"] sp_holds_claim := by
  refine calF S.f_D_holds_claim sc_holds_claim ?_ ?_
  · rintro vs H Q E ⟨_, _, _, _, _, _, _, _, _, _, rfl, _⟩
    rfl
  · rintro cdv A outer s H vs Q E hr ⟨c, v, v1, v2, N, R, Nn, d1, d2, d, rfl, hc, ok, hd1, hd2, hd, hl1, hl2, hl, q⟩
    refine ⟨_, pss_cons (ps_if (PW.pt (pw_or (pt_not (pt_val (pe_callB (call_isiC (K := K) rfl) (by rfl) S.n_isinstance (by decide +kernel) (pa_cons (pv 0) (pa_cons (pe_bltn (v := .ty "tuple") (by rfl) S.n_tuple (by decide +kernel) rfl) pa_nil))))) (pw_or (pt_cmpR op_lt (pe_callB (call_len_seqC (K := K) rfl) (by rfl) S.n_len (by decide +kernel) (pa_cons (pv 0) pa_nil)) pe_int (nomark _)) (pw_or (pt_not (pt_val (pe_callB (call_isiC (K := K) rfl) (by rfl) S.n_isinstance (by decide +kernel) (pa_cons (pe_ix (ix_tupC (K := K) rfl) (pv 0) pe_int (fun _ _ => rfl)) (pa_cons (pe_bltn (v := .ty "str") (by rfl) S.n_str (by decide +kernel) rfl) pa_nil))))) (pw_or1 (pt_cmpR (op_notIn_seqC (K := K) rfl) (pe_ix (ix_tupC (K := K) rfl) (pv 0) pe_int (fun _ _ => rfl)) (C8.pe_gc (v := .ref (He.ga K "WORDS")) rfl ⟨_, S.g_WORDS, rfl⟩) rfl)))))) (pss_one (ps_ret pe_bl)) pss_nil)
      (pss_cons (ps_set (i := 2) sc_holds_claim.nd rfl (Or.inl rfl) (C8.pe_c (c_form_in (K := K) S) hr (by decide) rfl (pa_cons (pe_ix (ix_tupC (K := K) rfl) (pv 0) pe_int (fun _ _ => rfl)) pa_nil)))
      (pss_cons (ps_if (pt_cmpR op_isN (pv 2) pe_non (nomark _)) (pss_one (ps_ret pe_bl)) pss_nil)
      (pss_cons (ps_par (i := 3) (j := 4) (by rfl) sc_holds_claim.nd rfl rfl (by decide) rfl rfl (pa_cons (C8.pe_mk (k_Form (K := K) S) hr (by decide) rfl (pa_cons (pe_ix (ix_tupC (K := K) rfl) (pv 2) pe_int (fun _ _ => rfl)) (pa_cons (pe_ix (ix_tupC (K := K) rfl) (pv 2) pe_int (fun _ _ => rfl)) pa_nil))) (pa_cons (pe_slice (sl_tupAC (K := K) rfl) (pv 0) (po_some pe_int) po_none) pa_nil)) (by rfl))
      (pss_cons (ps_if (pt_cmpR op_eq (pe_ix (ix_tupC (K := K) rfl) (pv 0) pe_int (fun _ _ => rfl)) pe_str (nomark _)) pss_never pss_nil)
      (pss_cons (ps_if (pt_cmpR (op_in_seqC (K := K) rfl) (pe_ix (ix_tupC (K := K) rfl) (pv 0) pe_int (fun _ _ => rfl)) (pe_tup (pa_cons pe_str (pa_cons pe_str pa_nil))) rfl) pss_never pss_nil)
      (pss_cons (ps_if (PW.pt (pw_or (pt_cmpR op_ne (pe_callB (call_len_seqC (K := K) rfl) (by rfl) S.n_len (by decide +kernel) (pa_cons (pv 4) pa_nil)) pe_int (nomark _)) (pw_or (pt_not (pt_val (C8.pe_c (c_is_good_filling (K := K) S) hr (by decide) rfl (pa_cons (pv 3) (pa_cons (pe_ix (ix_tupC (K := K) rfl) (pv 4) pe_int (fun _ _ => rfl)) pa_nil))))) (pw_or1 (pt_not (pt_val (C8.pe_c (c_is_good_filling (K := K) S) hr (by decide) rfl (pa_cons (pv 3) (pa_cons (pe_ix (ix_tupC (K := K) rfl) (pv 4) pe_int (fun _ _ => rfl)) pa_nil))))))))) (pss_one (ps_ret pe_bl)) pss_nil)
      (pss_one (ps_ret (C8.pe_c (c_pair_shown (K := K) S) hr (by decide) rfl (pa_cons (pe_ix (ix_tupC (K := K) rfl) (pv 0) pe_int (fun _ _ => rfl)) (pa_cons (pv 3) (pa_cons (pe_ix (ix_tupC (K := K) rfl) (pv 4) pe_int (fun _ _ => rfl)) (pa_cons (pe_ix (ix_tupC (K := K) rfl) (pv 4) pe_int (fun _ _ => rfl)) (pa_cons (pv 1) pa_nil)))))))))))))), ?_⟩
    have hcd : ∃ ds, Da Nn H (.ref c) (.tuple ds) := ⟨[.str "apart", .str (pageS N R), d1, d2], .tup hc (.cons (.str _) (.cons (.str _) (.cons hd1 (.cons hd2 .nil))))⟩
    obtain ⟨cds, hcd⟩ := hcd
    walk_at "go"
    refine rd_notInNq (N := wordsL) (S.wordsN H) ?_
    walk_at "go"
    refine ⟨N, R, rfl, ok, fun H1 p s1 ⟨pf, pr, as, hp, hpf, hpr, ra⟩ => ?_⟩
    have hc1 := s1 _ _ hc
    walk_at "go"
    intro x dx hx hdx ne
    have hx2 : upd H1 dx (.own x) x = none := by
      rw [upd_ne ne.symm]
      exact hx
    have s2 : Same H1 (upd (upd H1 dx (.own x)) x (.ins (He.ga K "Form") dx [])) := same_new2 (same_new hdx) hx2
    refine ⟨x, dx, pf, pr, as, N, R, rfl, upd_same, hpf.same s2, s2 _ _ hpr, ra.tk (Same.tk s2), ok, fun H3 k3 hF => ⟨rfl, ?_⟩⟩
    have s3 : Same H1 H3 := fun b o e => k3 b o (s2 b o e) fun z => by
      rw [z, hx] at e
      cases e
    have hc3 := s3 _ _ hc1
    walk_at "go"
    intro p4 H4 s4 e4
    have e4 : H4 p4 = some (.tup [v1, v2]) := e4
    have s04 := Same.trans s1 (Same.trans s3 s4)
    have hc4 := s4 _ _ hc3
    have hF4 := hF.same s4
    walk_at "go"
    refine ⟨szc rfl, fun p5 hp5 => ?_⟩
    have s5 : Same H4 (upd H4 p5 (.tup [.str "frozen", .str "implied"])) := same_new hp5
    refine rd_inN (N := ["frozen", "implied"]) upd_same ?_
    generalize upd H4 p5 (.tup [.str "frozen", .str "implied"]) = H5 at s5
    have s05 := Same.trans s04 s5
    have hc5 := s5 _ _ hc4
    have e5 := s5 _ _ e4
    have hF5 := hF4.same s5
    walk_at "go"
    refine ⟨x, v1, N, R, Nn, d1, rfl, hF5, ok, hd1.same s05, hl1, fun H6 s6 => ?_⟩
    have s06 := Same.trans s05 s6
    have e6 := s6 _ _ e5
    walk_at "go"
    refine ifb (fun h => ?_) fun h => ?_
    · walk_at "go"
      have hg : goodB N R d1 = false := by simpa using h
      unfold claimB at q
      rw [hg, Bool.false_and] at q
      exact q _ s06
    have g1 : goodB N R d1 = true := by simpa using h
    walk_at "go"
    refine ⟨x, v2, N, R, Nn, d2, rfl, hF5.same s6, ok, hd2.same s06, hl2, fun H7 s7 => ?_⟩
    have s07 := Same.trans s06 s7
    have e7 := s7 _ _ e6
    have hc7 := s7 _ _ (s6 _ _ hc5)
    walk_at "go"
    refine ifb (fun h => ?_) fun h => ?_
    · walk_at "go"
      have hg : goodB N R d2 = false := by simpa using h
      unfold claimB at q
      rw [hg, Bool.false_and, Bool.and_false] at q
      exact q _ s07
    have g2 : goodB N R d2 = true := by simpa using h
    unfold claimB at q
    rw [g1, g2, Bool.true_and, Bool.true_and] at q
    obtain ⟨a1, ev1, ha1, n1⟩ := good_at g1 (hd1.same s07)
    obtain ⟨a2, ev2, ha2, n2⟩ := good_at g2 (hd2.same s07)
    walk_at "go"
    exact ⟨x, a1, a2, v, N, R, numsOf d1, numsOf d2, Nn, d, by rw [ev1, ev2] <;> rfl, (hF5.same s6).same s7, ok, ha1, ha2, n1, n2, hd.same s07, hl, fun H8 s8 => q _ (Same.trans s07 s8)⟩
theorem c_holds_claim (S : Sys K mg) : C8.Cal P w K mg base 8 "holds_claim" sp_holds_claim [] := by
  obtain ⟨fd, F, G⟩ := f_holds_claim (P := P) (w := w) (base := base) S
  exact ⟨_, fd, _, [], G, S.g_holds_claim, F.kp, F.bindsN (fun _ _ _ _ _ _ us hl => match us, hl with | [_, _], _ => rfl), .nil⟩
end
/-! ### called by its keywords alone -/
def tKw2 (sp : Sp) (tk : TA) : TE := fun σ H Q => tk σ H fun zs H1 => ∃ a b, zs = [a, b] ∧ sp [b, a] H1 Q C8.E0
section
variable {X : Cx} {j : Nat} {p pos : Pos} {kws : List Keyword} {tk : TA}
theorem pe_hcKw (S : Sys X.K X.mg) (hr : Room j X.A) (hk : 8 ≤ j) (hg : Gl X "holds_claim") (hkw : PK X kws tk) (hall : (backToKw pos (keywordEach kws X.env)).all (·.1.isSome) = true := by rfl) (hks : (backToKw pos (keywordEach kws X.env)).filterMap (·.1) = (["certificate", "claim"] : List Str) := by rfl)
    (hpl : ((backTo pos (starEach [] X.env)).any (·.1) || (backToKw pos (keywordEach kws X.env)).any (·.1.isNone)) = false := by rfl) : PE X (.Call (.Name "holds_claim" p) [] kws pos) (tKw2 sp_holds_claim tk) := by
  obtain ⟨fd, F, G⟩ := f_holds_claim (P := X.prog) (w := X.w) (base := X.base) S
  have bi : ∀ (s : Shared) (a b : Value), BindsTo s fd ⟨[], [("certificate", a), ("claim", b)]⟩ [("claim", b), ("certificate", a)] := fun s a b => by
    obtain ⟨c1, c2, dv, c4, c5, c6, c7, cv, c8, c9, rfl, _, _, hD, _⟩ := F.ex
    rcases hD with ⟨_, rfl⟩ | ⟨z, _⟩
    · exact .of_eq rfl
    · exact absurd rfl z
  refine ⟨fun pins s σ H Q I h => wpAny_Call_Name_kw (ld_glob I hg S.g_holds_claim ?_ (by decide))⟩
  refine callWith_KW0 (h₀ := X.base) I.ok.mod.kin F.kp hall (thn (hkw.run pos pins s σ H _ I h) fun ws s1 ⟨zs, H1, I1, rz, a, b, ez, q⟩ => ⟨I1.kIn, ?_⟩) hpl
  subst ez
  rw [hks]
  cases rz with
  | cons r1 rz =>
    cases rz with
    | cons r2 rz =>
      cases rz
      refine wpAny_call (codeAny_mono (G.run X.A X.stack s1 H1 _ [_, _] [b, a] Q C8.E0 (hr.mono hk) I1.env0 (bi s1 _ _) (.cons r2 (.cons r1 .nil)) q) fun r s2 z => ?_)
      cases r with
      | error _ => exact z.elim
      | ok fl =>
        cases fl with
        | ret u => exact I1.after z
        | next => exact z.elim
        | brk => exact z.elim
        | cont => exact z.elim
end
end K59
/-! K59Auto3 -/
set_option Elab.async false
set_option linter.all false
set_option maxRecDepth 100000
set_option maxHeartbeats 4000000
namespace K59
open PySem PySem.W PySem.Calls PySem.Spec PyProof.Rows L2
section
variable {K : Frag} {σ : L2.St} {H H' : Hp} {Q : VK} {a b p F : Addr} {xs ys : List V} {o : HO} {v : V}
theorem rd_setL {i : Int} {j : Nat} {R : Hp → Prop} (h : H p = some (.lst xs)) (e : ixN xs.length i = some j) (q : R (upd H p (.lst (xs.set j v)))) : rSetL (.ref p) (.int i) v H R := ⟨p, xs, i, j, rfl, rfl, h, e, q⟩
theorem rd_int1 {i : Int} {R : Int → Prop} {S : Prop} (q : R i) : (∃ i', [V.int i] = [V.int i'] ∧ R i') ∨ S := .inl ⟨i, rfl, q⟩
theorem rd_x1 {i : Int} {R : Int → Prop} (q : R i) : ∃ i', [V.int i] = [V.int i'] ∧ R i' := ⟨i, rfl, q⟩
theorem rd_x2 {i j : Int} {R : Int → Int → Prop} (q : R i j) : ∃ i' j', [V.int i, V.int j] = [V.int i', V.int j'] ∧ R i' j' := ⟨i, j, rfl, q⟩
theorem rd_app {R : V → Hp → Prop} (h : H p = some (.lst xs)) (l : xs.length < sizeLine) (q : R .non (upd H p (.lst (xs ++ [v])))) : rAppend (.ref p) [v] H R := ⟨p, xs, v, rfl, rfl, h, l, q⟩
theorem rd_tyL {R : Prop} (h : H p = some (.lst xs)) (q : R) : tyV K "list" (.ref p) H ∧ R := ⟨.inl ⟨rfl, xs, .inl (.inl h)⟩, q⟩
theorem rd_ixsL {i : Int} (h : H p = some (.lst xs)) (e : atI xs i = some v) (q : Q v H) : rIx K (.ref p) (.int i) H Q := .inl (rd_ixL h e q)
theorem rd_ixsT {i : Int} (h : H p = some (.tup xs)) (e : atI xs i = some v) (q : Q v H) : rIx K (.ref p) (.int i) H Q := .inr (.inl (rd_ixT h e q))
theorem rd_via {t : TE} (P : V → Prop) (h : ∀ Q' : VK, (∀ v, P v → Q' v H) → t σ H Q') (q : ∀ v, P v → Q v H) : t σ H Q := h Q q
theorem rd_appK {R : V → Hp → Prop} (h : H p = some (.lst xs)) (l : xs.length < sizeLine) (q : ∀ H', Kp p H H' → H' p = some (.lst (xs ++ [v])) → R .non H') : rAppend (.ref p) [v] H R := rd_app h l (q _ (kp_upd _) upd_same)
theorem same_kp {H1 : Hp} (s : Same H H1) (h : H p = none) (k : Kp p H1 H') : Same H H' := fun b o e => k b o (s b o e) (ne_of_none e h)
theorem fk_kp {H1 : Hp} (s : FK F H H1) (n : p ≠ F) (h : H p = none) (k : Kp p H1 H') : FK F H H' := ⟨by
  obtain ⟨a, b, c, e⟩ := s.fl
  exact ⟨a, b, c, k _ _ e n.symm⟩, fun b o e ne => k b o (s.kp b o e ne) (ne_of_none e h)⟩
theorem FK.fl2 (h : FK F H H') : Fl H' F := h.fl
theorem FK.new {o : HO} (k : FK F H H') (h : H' a = none) : FK F H (upd H' a o) := k.same (same_new h)
theorem FK.get {o : HO} (k : FK F H H') (e : H a = some o) (n : a ≠ F) : H' a = some o := k.kp _ _ e n
theorem Fl.ne_new (f : Fl H F) (h : H a = none) : a ≠ F := fun z => by
  obtain ⟨_, _, _, e⟩ := f
  rw [← z, h] at e
  cases e
theorem FK.up (f : Fl H F) {a b c : Int} : FK F H (upd H F (.lst [.int a, .int b, .int c])) := ⟨⟨a, b, c, upd_same⟩, kp_upd _⟩
theorem FK.tup (k : FK F H H') (f : Fl H F) (e : H a = some (.tup xs)) : H' a = some (.tup xs) := k.kp _ _ e (f.ne_tup e)
end
theorem rd_disp {σ : L2.St} {H : Hp} {Q : VK} {trs : List (TE × TE)} (q : ∀ p, H p = none → tPairs trs σ (upd H p (.dK [])) fun ps H2 => H2 p = some (.dK []) ∧ ∃ kvs : List (Key × V), ps = kvs.map (fun kv => (kV kv.1, kv.2)) ∧ kvs.length ≤ 15 ∧ Q (.ref p) (upd H2 p (.dK (mergeK [] kvs)))) : tDisp trs σ H Q := q
theorem rd_dget {σ : L2.St} {H : Hp} {Q : VK} {td ty : TE} (q : td σ H fun x H1 => ty σ H1 fun y H2 => ∃ a v, x = .ref a ∧ DGet H2 a y (some v) ∧ Q v H2) : tDGet td ty σ H Q := q
theorem rd_pcons {σ : L2.St} {H : Hp} {tk tv : TE} {r : List (TE × TE)} {Q : List (V × V) → Hp → Prop} (q : tk σ H fun x H1 => tv σ H1 fun y H2 => tPairs r σ H2 fun ps H3 => Q ((x, y) :: ps) H3) : tPairs ((tk, tv) :: r) σ H Q := q
theorem rd_pnil {σ : L2.St} {H : Hp} {Q : List (V × V) → Hp → Prop} (q : Q [] H) : tPairs [] σ H Q := q
end K59
/-! K59L1 -/
set_option Elab.async false
set_option linter.all false
set_option maxRecDepth 100000
set_option maxHeartbeats 4000000
namespace K59
open PySem PySem.W PySem.Calls PySem.Spec PyProof.Rows L2
local macro_rules | `(tactic| walk_at "hp") => `(tactic| first
  | assumption
  | exact upd_same
  | (refine same_new (by assumption) _ _ ?_; walk_at "hp")
  | (refine (by assumption : Same _ _) _ _ ?_; walk_at "hp")
  | (refine FK.tk (by assumption) (by assumption) _ _ ?_; walk_at "hp"))
local macro_rules | `(tactic| walk_at "sq") => `(tactic| first
  | assumption
  | exact FrzT.sq (by assumption)
  | (refine sqt_new (by assumption) ?_; walk_at "sq")
  | (refine sqt_same ?_ (by assumption); walk_at "sq"))
local macro_rules | `(tactic| walk_at "fz") => `(tactic| first
  | assumption
  | (refine frz_new (by assumption) ?_; walk_at "fz")
  | (refine FrzT.same ?_ (by assumption); walk_at "fz"))
local macro_rules | `(tactic| walk_at "ic") => `(tactic| first
  | ((with_reducible show (0 : Int) < _); decide)
  | exact Or.inl ⟨by decide, by decide⟩
  | exact Or.inr ⟨by decide, by decide⟩
  | exact (show (0 : Int) < _ ∧ _ < (1073741824 : Int) from ⟨by decide, by decide⟩)
  | exact (show (0 : Int) ≤ _ ∧ _ ≤ (1000000 : Int) ∧ Int.natAbs _ < 2 ^ 64 from ⟨by decide, by decide, by decide⟩)
  | exact (⟨by decide, by decide, by decide⟩ : _ ∧ _ ∧ _))
local macro_rules | `(tactic| walk_at "st") => `(tactic| first
  | with_reducible refine rd_var rfl ?_
  | with_reducible refine rd_c ?_
  | with_reducible refine rd_cons ?_
  | with_reducible refine rd_nil ?_
  | with_reducible refine rd_op ?_
  | with_reducible refine rd_cb ?_
  | with_reducible refine rd_call ?_
  | with_reducible refine rd_test ?_
  | with_reducible refine rd_B ?_
  | with_reducible refine rd_bl ?_
  | with_reducible refine rd_un ?_
  | with_reducible refine rd_and ?_
  | with_reducible refine rd_or ?_
  | with_reducible refine rd_not ?_
  | with_reducible refine rd_andV ?_
  | with_reducible refine rd_orV ?_
  | with_reducible refine rd_notV ?_
  | with_reducible refine rd_if ?_
  | with_reducible refine rd_chain ?_
  | with_reducible refine rd_I0 ?_
  | with_reducible refine rd_U ?_
  | with_reducible refine rd_eqI ?_
  | with_reducible refine rd_neI ?_
  | with_reducible refine rd_eqS ?_
  | with_reducible refine rd_neS ?_
  | with_reducible refine rd_nn ?_
  | with_reducible refine rd_asg ?_
  | with_reducible refine rd_gname ?_
  | with_reducible refine rd_seq ?_
  | with_reducible refine rd_ifS ?_
  | with_reducible refine rd_ret ?_
  | with_reducible refine rd_next ?_
  | with_reducible refine rd_cont ?_
  | with_reducible refine rd_drop ?_
  | with_reducible refine rd_par ?_
  | with_reducible refine rd_vs2 ?_
  | with_reducible refine rd_gsub ?_
  | with_reducible refine rd_gcons ?_
  | with_reducible refine rd_gnil ?_
  | with_reducible refine rd_tup ?_
  | with_reducible refine rd_lst ?_
  | with_reducible refine rd_sl ?_
  | with_reducible refine rd_part ?_
  | with_reducible refine rd_nopart ?_
  | with_reducible refine rd_i1 ?_
  | with_reducible refine rd_bm ?_
  | with_reducible refine rd_yes ?_
  | with_reducible refine rd_lcT ?_
  | with_reducible refine rd_lcL ?_
  | with_reducible refine rd_lcR1 ?_
  | with_reducible refine rd_lcS ?_
  | with_reducible refine rd_forT ?_
  | with_reducible refine rd_forL ?_
  | with_reducible refine rd_forR1 ?_
  | with_reducible refine rd_atS ?_
  | with_reducible refine rd_forEn ?_
  | with_reducible refine rd_dget ?_
  | with_reducible refine rd_din ?_
  | with_reducible refine rd_dget2 ?_
  | with_reducible refine rd_dput ?_
  | with_reducible refine rd_disp ?_
  | with_reducible refine rd_pcons ?_
  | with_reducible refine rd_pnil ?_
  | with_reducible refine rd_dcL ?_
  | with_reducible refine rd_lcEn ?_
  | with_reducible refine rd_yS ?_
  | with_reducible refine rd_m1 ?_
  | with_reducible refine rd_meth ?_
  | with_reducible refine rd_fld ?_
  | with_reducible refine rd_sfld ?_
  | with_reducible refine rd_make ?_
  | with_reducible refine rd_fmt ?_
  | with_reducible refine rd_js ?_
  | with_reducible refine rd_js0 ?_
  | with_reducible refine iteT ?_
  | with_reducible refine iteF ?_
  | ((with_reducible refine isi_int (d := ?d1) (N := ?n1) ?h1 ?_); (case h1 => assumption))
  | ((with_reducible refine isi_bool (d := ?d1) (N := ?n1) ?h1 ?_); (case h1 => assumption))
  | ((with_reducible refine isi_str (d := ?d1) (N := ?n1) ?h1 ?_); (case h1 => assumption))
  | ((with_reducible refine isi_tuple (d := ?d1) (N := ?n1) ?h1 ?_); (case h1 => assumption))
  | with_reducible refine isi_str (N := fun _ => True) (Da.str _) ?_
  | with_reducible refine isi_int (N := fun _ => True) (Da.int _) ?_
  | with_reducible refine isi_bool (N := fun _ => True) (Da.int _) ?_
  | with_reducible refine isi_str (N := fun _ => True) (Da.int _) ?_
  | ((with_reducible show (wipe _ _ = wipe _ _) ∧ _); refine ⟨rfl, ?_⟩)
  | ((with_reducible show Ends.nx _ _ _); dsimp only)
  | ((with_reducible show Ends.rt _ _ _); dsimp only)
  | ((with_reducible show Ends.ct _ _ _); dsimp only)
  | ((with_reducible refine rd_ixT (xs := ?x1) (v := ?v1) ?h1 ?e1 ?_); (case h1 => walk_at "hp"); (case e1 => rfl))
  | ((with_reducible refine rd_ixL (xs := ?x1) (v := ?v1) ?h1 ?e1 ?_); (case h1 => walk_at "hp"); (case e1 => rfl))
  | ((with_reducible refine rd_lenT (xs := ?x1) ?h1 ?_); (case h1 => walk_at "hp"))
  | ((with_reducible refine rd_lenL (xs := ?x1) ?h1 ?_); (case h1 => walk_at "hp"))
  | ((with_reducible refine rd_tupOf (xs := ?x1) ?h1 ?_); (case h1 => walk_at "hp"))
  | ((with_reducible refine rd_all (bs := ?x1) ?h1 ?_); (case h1 => walk_at "hp"))
  | ((with_reducible refine rd_atT (xs := ?x1) ?h1 ?_); (case h1 => walk_at "hp"))
  | ((with_reducible refine rd_atL (xs := ?x1) ?h1 ?_); (case h1 => walk_at "hp"))
  | ((with_reducible refine rd_gtup (xs := ?x1) ?h1 ?e1 ?_); (case h1 => walk_at "hp"); (case e1 => rfl))
  | ((with_reducible refine rd_atEn (xs := ?x1) ?h1 ?_); (case h1 => walk_at "hp"))
  | ((with_reducible refine rd_slT (xs := ?x1) ?h1 ?_); (case h1 => walk_at "hp"))
  | ((with_reducible refine rd_slL (xs := ?x1) ?h1 ?_); (case h1 => walk_at "hp"))
  | ((with_reducible refine rd_inN (N := ?x1) ?h1 ?_); (case h1 => walk_at "hp"))
  | ((with_reducible refine rd_inL (N := ?x1) ?h1 ?_); (case h1 => walk_at "hp"))
  | ((with_reducible refine rd_notInN (N := ?x1) ?h1 ?_); (case h1 => walk_at "hp"))
  | ((with_reducible refine rd_notInL (N := ?x1) ?h1 ?_); (case h1 => walk_at "hp"))
  | with_reducible refine rd_tm ?_
  | ((with_reducible refine rd_isF (xs := ?x1) ?h1 ?_); (case h1 => walk_at "fz"))
  | ((with_reducible refine rd_lenTq (xs := ?x1) ?h1 ?_); (case h1 => walk_at "sq"))
  | ((with_reducible refine rd_atTq (xs := ?x1) ?h1 ?_); (case h1 => walk_at "sq"))
  | ((with_reducible refine rd_atEnq (xs := ?x1) ?h1 ?_); (case h1 => walk_at "sq"))
  | ((with_reducible refine rd_slTq (xs := ?x1) ?h1 ?_); (case h1 => walk_at "sq"))
  | ((with_reducible refine rd_inNq (N := ?x1) ?h1 ?_); (case h1 => walk_at "sq"))
  | ((with_reducible refine rd_setL (xs := ?x1) (j := ?j1) ?h1 ?e1 ?_); (case h1 => walk_at "hp"); (case e1 => rfl))
  | with_reducible refine rd_int1 ?_
  | with_reducible refine rd_x1 ?_
  | with_reducible refine rd_x2 ?_
  | ((with_reducible refine rd_tyL (xs := ?x1) ?h1 ?_); (case h1 => walk_at "hp"))
  | ((with_reducible refine rd_ixsL (xs := ?x1) (v := ?v1) ?h1 ?e1 ?_); (case h1 => walk_at "hp"); (case e1 => rfl))
  | ((with_reducible refine rd_ixsT (xs := ?x1) (v := ?v1) ?h1 ?e1 ?_); (case h1 => walk_at "hp"); (case e1 => rfl))
  | ((with_reducible refine rd_I ?c1 ?_); (case c1 => walk_at "ic"))
  | ((with_reducible refine if_t ?hb1 ?_); (case hb1 => rfl))
  | ((with_reducible refine if_f ?hb1 ?_); (case hb1 => rfl)))
local macro_rules | `(tactic| walk_at "go") => `(tactic| repeat (first | walk_at "st" | dsimp only))
section
variable {P : Program} {w : World} {K : Frag} {mg : Str → Option Value} {base : Heap}

abbrev N_L_drop : List Str := ["_law_flask_here", "_law_many", "_law_old", "_law_digit"]
theorem sc_L_drop : FnScope N_L_drop ["_law_flask_here", "_law_many"] (defScope s_L_drop) := ⟨rfl, rfl, rfl, by decide +kernel, rfl, by decide +kernel, by decide +kernel⟩
def sp_drop : Sp := fun vs H Q _ => ∃ F m, vs = [.ref F, .int m] ∧ 0 < m ∧ m < 1073741824 ∧ Fl H F ∧ ∀ H' d, FK F H H' → 0 ≤ d → d < m → Q (.int d) H'
theorem c_L_drop (S : Sys K mg) : C8.Cal P w K mg base 1 "_law_drop" sp_drop [] := by
  refine calD S.f_D_L_drop S.g_L_drop sc_L_drop (fun _ _ _ _ _ _ us hl => match us, hl with | [_, _], _ => rfl) ?_ ?_
  · rintro vs H Q E ⟨_, _, rfl, _⟩
    rfl
  · rintro cdv A outer s H vs Q E hr ⟨F, m, rfl, m0, m1, fl, q⟩
    refine ⟨_, pss_cons (ps_asg (pe_op op_add (pe_ix (ix_listC (K := K) rfl) (pv 0) pe_int (fun _ _ => rfl)) pe_int) (pg_sub (pv 0) pe_int set_list))
      (pss_cons (ps_set (i := 2) sc_L_drop.nd rfl (Or.inl rfl) (pe_callTy call_int1 (by rfl) S.n_int (by decide +kernel) (pa_cons (pe_ix (ix_listC (K := K) rfl) (pv 0) pe_int (fun _ _ => rfl)) pa_nil)))
      (pss_cons (ps_asg (pe_op op_mod (pe_callTy call_int1 (by rfl) S.n_int (by decide +kernel) (pa_cons (pe_op op_add (pe_op op_add (pe_op op_mul (pv 2) (pe_op op_add (pe_op op_mod (pe_callTy call_int1 (by rfl) S.n_int (by decide +kernel) (pa_cons (pv 2) pa_nil)) pe_int) pe_int)) (pe_op op_mul pe_int (pe_ix (ix_listC (K := K) rfl) (pv 0) pe_int (fun _ _ => rfl)))) pe_int) pa_nil)) pe_int) (pg_sub (pv 0) pe_int set_list))
      (pss_cons (ps_if (pt_cmpR op_gt (pe_ix (ix_listC (K := K) rfl) (pv 0) pe_int (fun _ _ => rfl)) pe_int (nomark _)) (pss_cons (ps_asg (pe_callB call_divmod (by rfl) S.n_divmod (by decide +kernel) (pa_cons (pe_ix (ix_listC (K := K) rfl) (pv 0) pe_int (fun _ _ => rfl)) (pa_cons (pv 1) pa_nil))) (pg_tupC (K := K) rfl rfl (pgs_cons (pg_sub (pv 0) pe_int set_list) (pgs_cons (pg_name (i := 3) sc_L_drop.nd rfl (Or.inl rfl)) pgs_nil))))
      (pss_one (ps_ret (pv 3)))) pss_nil)
      (pss_one (ps_ret (pe_op op_mod (pe_callTy call_int1 (by rfl) S.n_int (by decide +kernel) (pa_cons (pe_op op_fdiv (pe_ix (ix_listC (K := K) rfl) (pv 0) pe_int (fun _ _ => rfl)) pe_int) pa_nil)) (pv 1))))))), ?_⟩
    obtain ⟨a, b, c, e⟩ := fl
    walk_at "go"
    refine rd_I (.inr (by omega)) ?_
    walk_at "go"
    have pos : ∀ i : Int, 0 ≤ i % m ∧ i % m < m := fun i => ⟨Int.emod_nonneg _ (by omega), Int.emod_lt_of_pos _ m0⟩
    have k1 : FK F H (upd (upd H F (.lst ([V.int a, V.int b, V.int c].set (Int.toNat 2) (V.int (c + 1))))) F (.lst (([V.int a, V.int b, V.int c].set (Int.toNat 2) (V.int (c + 1))).set (Int.toNat 1) (.int ((b * (b % 19013 + 28097) + 30011 * (c + 1) + 17) % 2147483269))))) :=
      ⟨⟨a, _, c + 1, upd_same⟩, Kp.trans (kp_upd _) (kp_upd _)⟩
    have e1 : upd (upd H F (.lst ([V.int a, V.int b, V.int c].set (Int.toNat 2) (V.int (c + 1))))) F (.lst (([V.int a, V.int b, V.int c].set (Int.toNat 2) (V.int (c + 1))).set (Int.toNat 1) (.int ((b * (b % 19013 + 28097) + 30011 * (c + 1) + 17) % 2147483269)))) F =
      some (.lst [.int a, .int ((b * (b % 19013 + 28097) + 30011 * (c + 1) + 17) % 2147483269), .int (c + 1)]) := upd_same
    generalize upd (upd H F (.lst ([V.int a, V.int b, V.int c].set (Int.toNat 2) (V.int (c + 1))))) F (.lst (([V.int a, V.int b, V.int c].set (Int.toNat 2) (V.int (c + 1))).set (Int.toNat 1) (.int ((b * (b % 19013 + 28097) + 30011 * (c + 1) + 17) % 2147483269)))) = H1 at k1 e1
    generalize (b * (b % 19013 + 28097) + 30011 * (c + 1) + 17) % 2147483269 = b1 at e1
    walk_at "go"
    refine ifb (fun h => ?_) fun h => ?_
    · walk_at "go"
      refine ⟨⟨m0, m1⟩, fun p hp => ?_⟩
      have n1 : p ≠ F := k1.fl.ne_new hp
      have e2 : upd H1 p (.tup [.int (a / m), .int (a % m)]) F = some (.lst [.int a, .int b1, .int (c + 1)]) := by
        rw [upd_ne n1.symm]
        exact e1
      refine rd_gtup (xs := [.int (a / m), .int (a % m)]) upd_same rfl ?_
      walk_at "go"
      refine q _ _ ?_ (pos _).1 (pos _).2
      exact FK.trans (FK.new k1 hp) ⟨⟨_, _, _, upd_same⟩, kp_upd _⟩
    · walk_at "go"
      refine rd_I m0 ?_
      walk_at "go"
      exact q _ _ k1 (pos _).1 (pos _).2
abbrev N_L_of : List Str := ["_law_flask_here", "_law_things"]
theorem sc_L_of : FnScope N_L_of ["_law_flask_here", "_law_things"] (defScope s_L_of) := ⟨rfl, rfl, rfl, by decide +kernel, rfl, by decide +kernel, by decide +kernel⟩
def sp_of : Sp := fun vs H Q _ => ∃ F t, ∃ xs : List V, vs = [.ref F, .ref t] ∧ Fl H F ∧ ((H t = some (.lst xs) ∧ t ≠ F) ∨ H t = some (.tup xs)) ∧ xs ≠ [] ∧ xs.length < 1073741824 ∧ ∀ H' v, FK F H H' → v ∈ xs → Q v H'
theorem of_ix {xs : List V} {d : Int} (h0 : 0 ≤ d) (h1 : d < xs.length) : ∃ v, atI xs d = some v ∧ v ∈ xs := by
  have e : d = ((d.toNat : Nat) : Int) := (Int.toNat_of_nonneg h0).symm
  have hl : d.toNat < xs.length := by omega
  refine ⟨xs[d.toNat], ?_, List.getElem_mem hl⟩
  exact (congrArg (atI xs) e).trans (atI_nat (List.getElem?_eq_getElem hl))
theorem c_L_of (S : Sys K mg) : C8.Cal P w K mg base 2 "_law_of" sp_of [] := by
  refine calD S.f_D_L_of S.g_L_of sc_L_of (fun _ _ _ _ _ _ us hl => match us, hl with | [_, _], _ => rfl) ?_ ?_
  · rintro vs H Q E ⟨_, _, _, rfl, _⟩
    rfl
  · rintro cdv A outer s H vs Q E hr ⟨F, t, xs, rfl, fl, ht, ne, hl, q⟩
    refine ⟨_, pss_one (ps_ret (pe_ix (ix_seqC (K := K) rfl) (pv 1) (C8.pe_c (c_L_drop (K := K) S) hr (by decide) rfl (pa_cons (pv 0) (pa_cons (pe_callB (call_len_seqC (K := K) rfl) (by rfl) S.n_len (by decide +kernel) (pa_cons (pv 1) pa_nil)) pa_nil))) (fun _ _ => rfl))), ?_⟩
    have hpos : 0 < xs.length := List.length_pos_iff.mpr ne
    rcases ht with ⟨ht, nF⟩ | ht
    · walk_at "go"
      refine ⟨F, _, rfl, by omega, by omega, fl, fun H' d k d0 d1 => ?_⟩
      obtain ⟨v, ev, hv⟩ := of_ix d0 d1
      exact rd_ixsL (k.get ht nF) ev (q _ _ k hv)
    · walk_at "go"
      refine ⟨F, _, rfl, by omega, by omega, fl, fun H' d k d0 d1 => ?_⟩
      obtain ⟨v, ev, hv⟩ := of_ix d0 d1
      exact rd_ixsT (k.tup fl ht) ev (q _ _ k hv)
abbrev N_L_flask : List Str := ["_law_script", "_law_k", "_law_cell", "_law_mixed", "_law_each"]
theorem sc_L_flask : FnScope N_L_flask ["_law_script", "_law_k"] (defScope s_L_flask) := ⟨rfl, rfl, rfl, by decide +kernel, rfl, by decide +kernel, by decide +kernel⟩
def sp_flask (K : Frag) : Sp := fun vs H Q _ => ∃ sc, ∃ k : Nat, ∃ ns : List Int, vs = [.ref sc, .int k] ∧ SqL K H sc (ns.map V.int) ∧ k < 1000 ∧ ∀ H' F, Same H H' → H F = none → Fl H' F → Q (.ref F) H'
theorem c_L_flask (S : Sys K mg) : C8.Cal P w K mg base 1 "_law_flask" (sp_flask K) [] := by
  refine calD S.f_D_L_flask S.g_L_flask sc_L_flask (fun _ _ _ _ _ _ us hl => match us, hl with | [_, _], _ => rfl) ?_ ?_
  · rintro vs H Q E ⟨_, _, _, rfl, _⟩
    rfl
  · rintro cdv A outer s H vs Q E hr ⟨sc, k, ns, rfl, hs, hk, q⟩
    refine ⟨_, pss_cons (ps_set (i := 2) sc_L_flask.nd rfl (Or.inl rfl) (pe_ifExp (pt_cmpR op_lt (pv 1) (pe_callB (call_len_seqC (K := K) rfl) (by rfl) S.n_len (by decide +kernel) (pa_cons (pv 0) pa_nil)) (nomark _)) (pe_callTy call_int1 (by rfl) S.n_int (by decide +kernel) (pa_cons (pe_ix (ix_listC (K := K) rfl) (pv 0) (pv 1) (fun _ _ => rfl)) pa_nil)) (pe_op op_add (pe_op op_mul pe_int (pv 1)) pe_int)))
      (pss_cons (ps_set (i := 3) sc_L_flask.nd rfl (Or.inl rfl) (pe_op op_add pe_int (pe_op op_mul pe_int (pv 1))))
      (pss_cons (ps_for PassesOwn.never rfl (pi_listC (K := K) rfl (pe_op op_cat (pe_slice (sl_listC (K := K) rfl) (pv 0) po_none (po_some pe_int)) (pe_lst (pa_cons (pv 2) pa_nil)))) (pg_name (i := 4) sc_L_flask.nd rfl (Or.inl rfl))
        (pss_one (ps_set (i := 3) sc_L_flask.nd rfl (Or.inl rfl) (pe_op op_mod (pe_callTy call_int1 (by rfl) S.n_int (by decide +kernel) (pa_cons (pe_op op_add (pe_op op_mul (pv 3) pe_int) (pe_callTy call_int1 (by rfl) S.n_int (by decide +kernel) (pa_cons (pv 4) pa_nil))) pa_nil)) pe_int))))
      (pss_one (ps_ret (pe_lst (pa_cons (pe_ifExp (PW.pt (pw_or (pt_cmpR op_lt (pv 2) pe_int (nomark _)) (pw_or1 (pt_cmpR op_ge (pv 2) (pe_op op_pow pe_int pe_int) (nomark _))))) (pe_callB call_abs (by rfl) S.n_abs (by decide +kernel) (pa_cons (pv 2) pa_nil)) pe_int) (pa_cons (pv 3) (pa_cons pe_int pa_nil)))))))), ?_⟩
    refine rd_seq (rd_asg (rd_via (fun v => ∃ c, v = .int c) (fun Q' q' => ?_) ?_))
    · walk_at "go"
      refine ⟨sc, _, rfl, .inl hs, ?_⟩
      walk_at "go"
      refine ifb (fun h => ?_) fun h => ?_
      · have h := of_decide_eq_true h
        rw [List.length_map] at h
        have hk2 : k < ns.length := by omega
        walk_at "go"
        refine ⟨sc, _, _, .int ns[k], rfl, rfl, hs, atI_nat (by rw [List.getElem?_map, List.getElem?_eq_getElem hk2] <;> rfl), ?_⟩
        walk_at "go"
        exact q' _ ⟨_, rfl⟩
      · walk_at "go"
        exact q' _ ⟨_, rfl⟩
    rintro _ ⟨c, rfl⟩
    walk_at "go"
    refine ⟨sc, _, rfl, hs, fun p hp => ?_⟩
    have e1 : upd H p (.lst (cutV (ns.map V.int) none (some 5))) p = some (.lst ((ns.take 5).map V.int)) := by
      rw [upd_same]
      exact congrArg (fun z => some (HO.lst z)) ((cut_to (ns.map V.int) 5).trans (List.map_take ..).symm)
    have s1 : Same H (upd H p (.lst (cutV (ns.map V.int) none (some 5)))) := same_new hp
    generalize upd H p (.lst (cutV (ns.map V.int) none (some 5))) = H1 at e1 s1
    walk_at "go"
    refine ⟨szc rfl, fun p2 hp2 => ?_⟩
    have s2 : Same H1 (upd H1 p2 (.lst [.int c])) := same_new hp2
    refine rd_catL (s2 _ _ e1) upd_same (sz (by simp; omega)) fun p3 hp3 => ?_
    have s3 := same_new (o := .lst ((ns.take 5).map V.int ++ [.int c])) hp3
    have e3 : upd (upd H1 p2 (.lst [.int c])) p3 (.lst ((ns.take 5).map V.int ++ [.int c])) p3 = some (.lst ((ns.take 5 ++ [c]).map V.int)) := by
      rw [upd_same, List.map_append] <;> rfl
    generalize upd (upd H1 p2 (.lst [.int c])) p3 (.lst ((ns.take 5).map V.int ++ [.int c])) = H3 at e3 s3
    have s03 := Same.trans s1 (Same.trans s2 s3)
    walk_at "go"
    refine forW (Y := YAt ((ns.take 5 ++ [c]).map V.int)) walk_list (fun _ σ H2 => ∃ z x4, σ = [some (.ref sc), some (.int k), some (.int c), some (.int z), x4] ∧ H2 = H3) ⟨_, _, rfl, rfl⟩ (fun _ _ _ _ ⟨_, _, _, e⟩ => .inl (.inl (e ▸ e3))) (fun i x σ H2 H2' hi ⟨z, x4, eσ, eH⟩ hY => ?_) fun σ H2 ⟨z, x4, eσ, eH⟩ => ?_
    · obtain ⟨rfl, hx⟩ := hY
      subst eσ
      subst eH
      rw [List.getElem?_map] at hx
      obtain ⟨y, hy, rfl⟩ := Option.map_eq_some_iff.mp hx
      walk_at "go"
      exact ⟨_, _, rfl, rfl⟩
    · subst eσ
      subst eH
      dsimp only
      refine rd_ret ?_
      refine rd_lst (rd_cons (rd_via (fun v => ∃ c, v = .int c) (fun Q' q' => ?_) ?_))
      · walk_at "go"
        refine ifb (fun h => ?_) fun h => ?_
        · walk_at "go"
          exact q' _ ⟨_, rfl⟩
        · walk_at "go"
          refine ifb (fun h => ?_) fun h => ?_
          · walk_at "go"
            exact q' _ ⟨_, rfl⟩
          · walk_at "go"
            exact q' _ ⟨_, rfl⟩
      rintro _ ⟨a, rfl⟩
      walk_at "go"
      refine ⟨szc rfl, fun p4 hp4 => ?_⟩
      exact q _ p4 (same_new2 s03 hp4) (Same.none s03 hp4) ⟨a, _, 0, upd_same⟩
end
end K59
/-! K59L2 -/
set_option Elab.async false
set_option linter.all false
set_option maxRecDepth 100000
set_option maxHeartbeats 4000000
namespace K59
open PySem PySem.W PySem.Calls PySem.Spec PyProof.Rows L2
local macro_rules | `(tactic| walk_at "hp") => `(tactic| first
  | assumption
  | exact upd_same
  | (refine same_new (by assumption) _ _ ?_; walk_at "hp")
  | (refine (by assumption : Same _ _) _ _ ?_; walk_at "hp")
  | (refine FK.tk (by assumption) (by assumption) _ _ ?_; walk_at "hp"))
local macro_rules | `(tactic| walk_at "sq") => `(tactic| first
  | assumption
  | exact FrzT.sq (by assumption)
  | (refine sqt_new (by assumption) ?_; walk_at "sq")
  | (refine sqt_same ?_ (by assumption); walk_at "sq"))
local macro_rules | `(tactic| walk_at "fz") => `(tactic| first
  | assumption
  | (refine frz_new (by assumption) ?_; walk_at "fz")
  | (refine FrzT.same ?_ (by assumption); walk_at "fz"))
local macro_rules | `(tactic| walk_at "ic") => `(tactic| first
  | ((with_reducible show (0 : Int) < _); decide)
  | exact Or.inl ⟨by decide, by decide⟩
  | exact Or.inr ⟨by decide, by decide⟩
  | exact (show (0 : Int) < _ ∧ _ < (1073741824 : Int) from ⟨by decide, by decide⟩)
  | exact (show (0 : Int) ≤ _ ∧ _ ≤ (1000000 : Int) ∧ Int.natAbs _ < 2 ^ 64 from ⟨by decide, by decide, by decide⟩)
  | exact (⟨by decide, by decide, by decide⟩ : _ ∧ _ ∧ _))
local macro_rules | `(tactic| walk_at "st") => `(tactic| first
  | with_reducible refine rd_var rfl ?_
  | with_reducible refine rd_c ?_
  | with_reducible refine rd_cons ?_
  | with_reducible refine rd_nil ?_
  | with_reducible refine rd_op ?_
  | with_reducible refine rd_cb ?_
  | with_reducible refine rd_call ?_
  | with_reducible refine rd_test ?_
  | with_reducible refine rd_B ?_
  | with_reducible refine rd_bl ?_
  | with_reducible refine rd_un ?_
  | with_reducible refine rd_and ?_
  | with_reducible refine rd_or ?_
  | with_reducible refine rd_not ?_
  | with_reducible refine rd_andV ?_
  | with_reducible refine rd_orV ?_
  | with_reducible refine rd_notV ?_
  | with_reducible refine rd_if ?_
  | with_reducible refine rd_chain ?_
  | with_reducible refine rd_I0 ?_
  | with_reducible refine rd_U ?_
  | with_reducible refine rd_eqI ?_
  | with_reducible refine rd_neI ?_
  | with_reducible refine rd_eqS ?_
  | with_reducible refine rd_neS ?_
  | with_reducible refine rd_nn ?_
  | with_reducible refine rd_asg ?_
  | with_reducible refine rd_gname ?_
  | with_reducible refine rd_seq ?_
  | with_reducible refine rd_ifS ?_
  | with_reducible refine rd_ret ?_
  | with_reducible refine rd_next ?_
  | with_reducible refine rd_cont ?_
  | with_reducible refine rd_drop ?_
  | with_reducible refine rd_par ?_
  | with_reducible refine rd_vs2 ?_
  | with_reducible refine rd_gsub ?_
  | with_reducible refine rd_gcons ?_
  | with_reducible refine rd_gnil ?_
  | with_reducible refine rd_tup ?_
  | with_reducible refine rd_lst ?_
  | with_reducible refine rd_sl ?_
  | with_reducible refine rd_part ?_
  | with_reducible refine rd_nopart ?_
  | with_reducible refine rd_i1 ?_
  | with_reducible refine rd_bm ?_
  | with_reducible refine rd_yes ?_
  | with_reducible refine rd_lcT ?_
  | with_reducible refine rd_lcL ?_
  | with_reducible refine rd_lcR1 ?_
  | with_reducible refine rd_lcS ?_
  | with_reducible refine rd_forT ?_
  | with_reducible refine rd_forL ?_
  | with_reducible refine rd_forR1 ?_
  | with_reducible refine rd_atS ?_
  | with_reducible refine rd_forEn ?_
  | with_reducible refine rd_dget ?_
  | with_reducible refine rd_din ?_
  | with_reducible refine rd_dget2 ?_
  | with_reducible refine rd_dput ?_
  | with_reducible refine rd_disp ?_
  | with_reducible refine rd_pcons ?_
  | with_reducible refine rd_pnil ?_
  | with_reducible refine rd_dcL ?_
  | with_reducible refine rd_lcEn ?_
  | with_reducible refine rd_yS ?_
  | with_reducible refine rd_m1 ?_
  | with_reducible refine rd_meth ?_
  | with_reducible refine rd_fld ?_
  | with_reducible refine rd_sfld ?_
  | with_reducible refine rd_make ?_
  | with_reducible refine rd_fmt ?_
  | with_reducible refine rd_js ?_
  | with_reducible refine rd_js0 ?_
  | with_reducible refine iteT ?_
  | with_reducible refine iteF ?_
  | ((with_reducible refine isi_int (d := ?d1) (N := ?n1) ?h1 ?_); (case h1 => assumption))
  | ((with_reducible refine isi_bool (d := ?d1) (N := ?n1) ?h1 ?_); (case h1 => assumption))
  | ((with_reducible refine isi_str (d := ?d1) (N := ?n1) ?h1 ?_); (case h1 => assumption))
  | ((with_reducible refine isi_tuple (d := ?d1) (N := ?n1) ?h1 ?_); (case h1 => assumption))
  | with_reducible refine isi_str (N := fun _ => True) (Da.str _) ?_
  | with_reducible refine isi_int (N := fun _ => True) (Da.int _) ?_
  | with_reducible refine isi_bool (N := fun _ => True) (Da.int _) ?_
  | with_reducible refine isi_str (N := fun _ => True) (Da.int _) ?_
  | ((with_reducible show (wipe _ _ = wipe _ _) ∧ _); refine ⟨rfl, ?_⟩)
  | ((with_reducible show Ends.nx _ _ _); dsimp only)
  | ((with_reducible show Ends.rt _ _ _); dsimp only)
  | ((with_reducible show Ends.ct _ _ _); dsimp only)
  | ((with_reducible refine rd_ixT (xs := ?x1) (v := ?v1) ?h1 ?e1 ?_); (case h1 => walk_at "hp"); (case e1 => rfl))
  | ((with_reducible refine rd_ixL (xs := ?x1) (v := ?v1) ?h1 ?e1 ?_); (case h1 => walk_at "hp"); (case e1 => rfl))
  | ((with_reducible refine rd_lenT (xs := ?x1) ?h1 ?_); (case h1 => walk_at "hp"))
  | ((with_reducible refine rd_lenL (xs := ?x1) ?h1 ?_); (case h1 => walk_at "hp"))
  | ((with_reducible refine rd_tupOf (xs := ?x1) ?h1 ?_); (case h1 => walk_at "hp"))
  | ((with_reducible refine rd_all (bs := ?x1) ?h1 ?_); (case h1 => walk_at "hp"))
  | ((with_reducible refine rd_atT (xs := ?x1) ?h1 ?_); (case h1 => walk_at "hp"))
  | ((with_reducible refine rd_atL (xs := ?x1) ?h1 ?_); (case h1 => walk_at "hp"))
  | ((with_reducible refine rd_gtup (xs := ?x1) ?h1 ?e1 ?_); (case h1 => walk_at "hp"); (case e1 => rfl))
  | ((with_reducible refine rd_atEn (xs := ?x1) ?h1 ?_); (case h1 => walk_at "hp"))
  | ((with_reducible refine rd_slT (xs := ?x1) ?h1 ?_); (case h1 => walk_at "hp"))
  | ((with_reducible refine rd_slL (xs := ?x1) ?h1 ?_); (case h1 => walk_at "hp"))
  | ((with_reducible refine rd_inN (N := ?x1) ?h1 ?_); (case h1 => walk_at "hp"))
  | ((with_reducible refine rd_inL (N := ?x1) ?h1 ?_); (case h1 => walk_at "hp"))
  | ((with_reducible refine rd_notInN (N := ?x1) ?h1 ?_); (case h1 => walk_at "hp"))
  | ((with_reducible refine rd_notInL (N := ?x1) ?h1 ?_); (case h1 => walk_at "hp"))
  | with_reducible refine rd_tm ?_
  | ((with_reducible refine rd_isF (xs := ?x1) ?h1 ?_); (case h1 => walk_at "fz"))
  | ((with_reducible refine rd_lenTq (xs := ?x1) ?h1 ?_); (case h1 => walk_at "sq"))
  | ((with_reducible refine rd_atTq (xs := ?x1) ?h1 ?_); (case h1 => walk_at "sq"))
  | ((with_reducible refine rd_atEnq (xs := ?x1) ?h1 ?_); (case h1 => walk_at "sq"))
  | ((with_reducible refine rd_slTq (xs := ?x1) ?h1 ?_); (case h1 => walk_at "sq"))
  | ((with_reducible refine rd_inNq (N := ?x1) ?h1 ?_); (case h1 => walk_at "sq"))
  | ((with_reducible refine rd_setL (xs := ?x1) (j := ?j1) ?h1 ?e1 ?_); (case h1 => walk_at "hp"); (case e1 => rfl))
  | with_reducible refine rd_int1 ?_
  | with_reducible refine rd_x1 ?_
  | with_reducible refine rd_x2 ?_
  | ((with_reducible refine rd_tyL (xs := ?x1) ?h1 ?_); (case h1 => walk_at "hp"))
  | ((with_reducible refine rd_ixsL (xs := ?x1) (v := ?v1) ?h1 ?e1 ?_); (case h1 => walk_at "hp"); (case e1 => rfl))
  | ((with_reducible refine rd_ixsT (xs := ?x1) (v := ?v1) ?h1 ?e1 ?_); (case h1 => walk_at "hp"); (case e1 => rfl))
  | ((with_reducible refine rd_I ?c1 ?_); (case c1 => walk_at "ic"))
  | ((with_reducible refine if_t ?hb1 ?_); (case hb1 => rfl))
  | ((with_reducible refine if_f ?hb1 ?_); (case hb1 => rfl)))
local macro_rules | `(tactic| walk_at "go") => `(tactic| repeat (first | walk_at "st" | dsimp only))
section
variable {P : Program} {w : World} {K : Frag} {mg : Str → Option Value} {base : Heap}

abbrev N_L_tags : List Str := ["_law_flask_here", "_law_many", "_law_menu", "_law_start", "_law_leap", "_law_k"]
theorem sc_L_tags : FnScope N_L_tags ["_law_flask_here", "_law_many"] (defScope s_L_tags) := ⟨rfl, rfl, rfl, by decide +kernel, rfl, by decide +kernel, by decide +kernel⟩
def menuAt (i : Int) : Str := (menu[i.toNat]?).getD eS
theorem menu_nd : menu.Nodup := by decide +kernel
theorem menu_16 : menu.length = 16 := rfl
theorem menuAt_mem {i : Int} (h0 : 0 ≤ i) (h1 : i < 16) : menu[i.toNat]? = some (menuAt i) ∧ menuAt i ∈ menu := by
  have hl : i.toNat < menu.length := by
    rw [menu_16]
    omega
  have e : menuAt i = menu[i.toNat] := by
    unfold menuAt
    rw [List.getElem?_eq_getElem hl] <;> rfl
  rw [e]
  exact ⟨List.getElem?_eq_getElem hl, List.getElem_mem hl⟩
theorem menuAt_inj {i j : Int} (h0 : 0 ≤ i) (h1 : i < 16) (g0 : 0 ≤ j) (g1 : j < 16) (e : menuAt i = menuAt j) : i = j := by
  have a := (menuAt_mem h0 h1).1
  have b := (menuAt_mem g0 g1).1
  rw [e] at a
  obtain ⟨ha, ea⟩ := List.getElem?_eq_some_iff.mp a
  obtain ⟨hb, eb⟩ := List.getElem?_eq_some_iff.mp b
  have nd := menu_nd
  by_cases lt : i.toNat = j.toNat
  · omega
  · exfalso
    rcases Nat.lt_or_gt_of_ne lt with h | h
    · exact List.pairwise_iff_getElem.mp nd _ _ ha hb h (ea.trans eb.symm)
    · exact List.pairwise_iff_getElem.mp nd _ _ hb ha h (eb.trans ea.symm)
def tagsL (s l : Int) (n : Nat) : List Str := (List.range n).map fun k => menuAt ((s + l * (k : Nat)) % 16)
theorem tags_nd {s d : Int} {n : Nat} (h0 : 0 ≤ d) (h1 : d < 5) (hn : n ≤ 5) : (tagsL s (1 + 2 * d) n).Nodup := by
  unfold tagsL List.Nodup
  rw [List.pairwise_map]
  refine (List.nodup_range (n := n)).imp_of_mem fun {a b} ha hb h z => h ?_
  rw [List.mem_range] at ha hb
  have e := menuAt_inj (by omega) (by omega) (by omega) (by omega) z
  have hd : d = 0 ∨ d = 1 ∨ d = 2 ∨ d = 3 ∨ d = 4 := by omega
  rcases hd with rfl | rfl | rfl | rfl | rfl <;> omega
theorem tags_mem {s l : Int} {n : Nat} : ∀ z ∈ tagsL s l n, z ∈ menu := fun z h => by
  obtain ⟨k, _, rfl⟩ := List.mem_map.mp h
  exact (menuAt_mem (by omega) (by omega)).2
def sp_tags : Sp := fun vs H Q _ => ∃ F, ∃ n : Nat, ∃ m, vs = [.ref F, .int m] ∧ m = (n : Int) ∧ n ≤ 5 ∧ Fl H F ∧ ∀ H' p, ∀ N : List Str, FK F H H' → H' p = some (.tup (N.map V.str)) → N.length = n → N.Nodup → (∀ z ∈ N, z ∈ menu) → Q (.ref p) H'
theorem c_L_tags (S : Sys K mg) : C8.Cal P w K mg base 2 "_law_tags" sp_tags [] := by
  refine calD S.f_D_L_tags S.g_L_tags sc_L_tags (fun _ _ _ _ _ _ us hl => match us, hl with | [_, _], _ => rfl) ?_ ?_
  · rintro vs H Q E ⟨_, _, _, rfl, _⟩
    rfl
  · rintro cdv A outer s H vs Q E hr ⟨F, n, m, rfl, rfl, hn, fl, q⟩
    refine ⟨_, pss_cons (ps_set (i := 2) sc_L_tags.nd rfl (Or.inr rfl) (pe_lst (pa_cons pe_str (pa_cons pe_str (pa_cons pe_str (pa_cons pe_str (pa_cons pe_str (pa_cons pe_str (pa_cons pe_str (pa_cons pe_str (pa_cons pe_str (pa_cons pe_str (pa_cons pe_str (pa_cons pe_str (pa_cons pe_str (pa_cons pe_str (pa_cons pe_str pa_nil)))))))))))))))))
      (pss_cons (ps_expr (pe_bm PySem.F.plainAttrs_list PySem.F.slot_list_append PySem.F.type_list_append mt_append (pv 2) (pa_cons pe_str pa_nil)))
      (pss_cons (ps_asg (pe_tup (pa_cons (C8.pe_c (c_L_drop (K := K) S) hr (by decide) rfl (pa_cons (pv 0) (pa_cons pe_int pa_nil))) (pa_cons (pe_op op_add pe_int (pe_op op_mul pe_int (C8.pe_c (c_L_drop (K := K) S) hr (by decide) rfl (pa_cons (pv 0) (pa_cons pe_int pa_nil))))) pa_nil))) (pg_tupC (K := K) rfl rfl (pgs_cons (pg_name (i := 3) sc_L_tags.nd rfl (Or.inr rfl)) (pgs_cons (pg_name (i := 4) sc_L_tags.nd rfl (Or.inr rfl)) pgs_nil))))
      (pss_one (ps_ret (pe_callTy (call_tuple_ofC (K := K) rfl) (by rfl) S.n_tuple (by decide +kernel) (pa_cons (pe_lc (own := [("_law_k", 5)]) (g := gName 5) (tt := tYes) rfl sc_L_tags.nd (pi_range1 (by rfl) S.n_range (pa_cons (pv 1) pa_nil)) (blkOk_by (N := N_L_tags) (sc := defScope s_L_tags) (by decide +kernel)) (fun _ _ _ _ _ => (pg_name (i := 5) sc_L_tags.nd rfl (Or.inl rfl))) (fun _ _ _ _ _ => pts_nil) (fun _ _ _ _ _ => (pe_ix (ix_listC (K := K) rfl) (pv 2) (pe_op op_mod (pe_callTy call_int1 (by rfl) S.n_int (by decide +kernel) (pa_cons (pe_op op_add (pv 3) (pe_op op_mul (pv 4) (pv 5))) pa_nil)) pe_int) (fun _ _ => rfl)))) pa_nil)))))), ?_⟩
    walk_at "go"
    refine ⟨szc rfl, fun p hp => ?_⟩
    have nF := fl.ne_new hp
    walk_at "go"
    refine rd_appK upd_same (by decide) fun H1 kp e1 => ?_
    have e1 : H1 p = some (.lst (menu.map V.str)) := e1
    have k1 : FK F H H1 := Same.fk fl (same_kp (same_new hp) hp kp)
    walk_at "go"
    refine ⟨F, 16, rfl, by decide, by decide, k1.fl, fun H2 st k2 a0 a1 => ?_⟩
    walk_at "go"
    refine ⟨F, 5, rfl, by decide, by decide, k2.fl, fun H3 d k3 d0 d1 => ?_⟩
    walk_at "go"
    refine ⟨szc rfl, fun p3 hp3 => ?_⟩
    have e3 := k3.get (k2.get e1 nF) nF
    have s4 := same_new (o := .tup [.int st, .int (1 + 2 * d)]) hp3
    have e4 : upd H3 p3 (.tup [.int st, .int (1 + 2 * d)]) p3 = some (.tup [.int st, .int (1 + 2 * d)]) := upd_same
    have k4 := ((k1.trans k2).trans k3).same s4
    have e34 := s4 _ _ e3
    generalize upd H3 p3 (.tup [.int st, .int (1 + 2 * d)]) = H4 at s4 e4 k4 e34
    walk_at "go"
    refine ⟨by omega, by omega, ?_⟩
    refine lcM (n := n) walk_r0 ((tagsL st (1 + 2 * d) n).map V.str) (by simp [tagsL]) (by omega) (fun _ _ => trivial) (fun j x H5 H5' y hj s hY hy Qy Qn hQ => ?_) fun L H5 hL s e => ?_
    · obtain ⟨rfl, rfl⟩ := hY
      rw [List.getElem?_map, tagsL, List.getElem?_map, List.getElem?_range hj] at hy
      cases hy
      walk_at "go"
      refine rd_I (.inl (by omega)) ?_
      walk_at "go"
      have em := (menuAt_mem (i := (st + (1 + 2 * d) * (j : Nat)) % 16) (by omega) (by omega)).1
      have ei : ((st + (1 + 2 * d) * (j : Nat)) % 16) = ((((st + (1 + 2 * d) * (j : Nat)) % 16).toNat : Nat) : Int) := by omega
      refine rd_ixL (s _ _ e34) ((congrArg (atI _) ei).trans (atI_nat (by rw [List.getElem?_map, em] <;> rfl))) ?_
      exact hQ _ (Same.refl _)
    · walk_at "go"
      exact fun p6 hp6 => q _ p6 _ ((k4.same s).same (same_new hp6)) upd_same (by simp [tagsL]) (tags_nd d0 d1 hn) tags_mem
abbrev N_L_bond : List Str := ["_law_flask_here", "_law_folk", "_law_base", "_law_spare", "_law_at", "_law_to", "_law_bound"]
theorem sc_L_bond : FnScope N_L_bond ["_law_flask_here", "_law_folk", "_law_base"] (defScope s_L_bond) := ⟨rfl, rfl, rfl, by decide +kernel, rfl, by decide +kernel, by decide +kernel⟩
theorem clampP (x : Int) : -1000 ≤ (if (if x < 1000 then x else 1000) > -1000 then (if x < 1000 then x else 1000) else -1000) ∧ (if (if x < 1000 then x else 1000) > -1000 then (if x < 1000 then x else 1000) else -1000) ≤ 1000 := by
  by_cases h : x < 1000
  · rw [if_pos h]
    by_cases g : x > -1000
    · rw [if_pos g]
      omega
    · rw [if_neg g]
      omega
  · rw [if_neg h]
    decide
def sp_bond : Sp := fun vs H Q _ => ∃ F pf pb, ∃ N : List Str, ∃ bs : List Int, vs = [.ref F, .ref pf, .ref pb] ∧ Fl H F ∧ H pf = some (.tup (N.map V.str)) ∧ 1 ≤ N.length ∧ N.length ≤ 5 ∧ N.Nodup ∧ H pb = some (.lst (bs.map V.int)) ∧ pb ≠ F ∧ bs.length = N.length ∧
  ∀ H' p r, FK F H H' → H' p = some (.tup (rv r)) → RlOk N r → Q (.ref p) H'
theorem c_L_bond (S : Sys K mg) : C8.Cal P w K mg base 3 "_law_bond" sp_bond [] := by
  refine calD S.f_D_L_bond S.g_L_bond sc_L_bond (fun _ _ _ _ _ _ us hl => match us, hl with | [_, _, _], _ => rfl) ?_ ?_
  · rintro vs H Q E ⟨_, _, _, _, _, rfl, _⟩
    rfl
  · rintro cdv A outer s H vs Q E hr ⟨F, pf, pb, N, bs, rfl, fl, hf, n1, n5, nd, hb, nF, bl, q⟩
    refine ⟨_, pss_cons (ps_set (i := 3) sc_L_bond.nd rfl (Or.inl rfl) (C8.pe_c (c_L_of (K := K) S) hr (by decide) rfl (pa_cons (pv 0) (pa_cons (pe_lst (pa_cons pe_int (pa_cons pe_int (pa_cons pe_int (pa_cons pe_int (pa_cons pe_int (pa_cons pe_int (pa_cons pe_int (pa_cons (C8.pe_c (c_L_drop (K := K) S) hr (by decide) rfl (pa_cons (pv 0) (pa_cons pe_int pa_nil))) (pa_cons (pe_un un_neg pe_int) (pa_cons (pe_op op_sub (C8.pe_c (c_L_drop (K := K) S) hr (by decide) rfl (pa_cons (pv 0) (pa_cons pe_int pa_nil))) pe_int) pa_nil))))))))))) pa_nil))))
      (pss_cons (ps_par (i := 4) (j := 5) (by rfl) sc_L_bond.nd rfl rfl (by decide) rfl rfl (pa_cons (C8.pe_c (c_L_drop (K := K) S) hr (by decide) rfl (pa_cons (pv 0) (pa_cons (pe_callB (call_len_seqC (K := K) rfl) (by rfl) S.n_len (by decide +kernel) (pa_cons (pv 1) pa_nil)) pa_nil))) (pa_cons (C8.pe_c (c_L_drop (K := K) S) hr (by decide) rfl (pa_cons (pv 0) (pa_cons (pe_callB (call_len_seqC (K := K) rfl) (by rfl) S.n_len (by decide +kernel) (pa_cons (pv 1) pa_nil)) pa_nil))) pa_nil)) (by rfl))
      (pss_cons (ps_if (PW.pt (pw_and (pt_cmpR op_ne (pv 4) (pv 5) (nomark _)) (pw_and1 (pt_cmpR op_gt (C8.pe_c (c_L_drop (K := K) S) hr (by decide) rfl (pa_cons (pv 0) (pa_cons pe_int pa_nil))) pe_int (nomark _))))) (pss_cons (ps_set (i := 6) sc_L_bond.nd rfl (Or.inl rfl) (pe_op op_add (pe_op op_sub (pe_ix (ix_listC (K := K) rfl) (pv 2) (pv 4) (fun _ _ => rfl)) (pe_ix (ix_listC (K := K) rfl) (pv 2) (pv 5) (fun _ _ => rfl))) (pv 3)))
      (pss_one (ps_ret (pe_tup (pa_cons pe_str (pa_cons (pe_ix (ix_tupC (K := K) rfl) (pv 1) (pv 4) (fun _ _ => rfl)) (pa_cons (pe_ix (ix_tupC (K := K) rfl) (pv 1) (pv 5) (fun _ _ => rfl)) (pa_cons (pe_callB (call_max2 rfl) (by rfl) S.n_max (by decide +kernel) (pa_cons (pe_un un_neg pe_int) (pa_cons (pe_callB (call_min2 rfl) (by rfl) S.n_min (by decide +kernel) (pa_cons pe_int (pa_cons (pv 6) pa_nil))) pa_nil))) pa_nil)))))))) pss_nil)
      (pss_cons (ps_if (pt_cmpR op_eq (C8.pe_c (c_L_drop (K := K) S) hr (by decide) rfl (pa_cons (pv 0) (pa_cons pe_int pa_nil))) pe_int (nomark _)) (pss_one (ps_ret (pe_tup (pa_cons pe_str (pa_cons (pe_ix (ix_tupC (K := K) rfl) (pv 1) (pv 4) (fun _ _ => rfl)) (pa_cons (pe_callB (call_max2 rfl) (by rfl) S.n_max (by decide +kernel) (pa_cons (pe_un un_neg pe_int) (pa_cons (pe_callB (call_min2 rfl) (by rfl) S.n_min (by decide +kernel) (pa_cons pe_int (pa_cons (pe_op op_add (pe_ix (ix_listC (K := K) rfl) (pv 2) (pv 4) (fun _ _ => rfl)) (pv 3)) pa_nil))) pa_nil))) pa_nil)))))) pss_nil)
      (pss_one (ps_ret (pe_tup (pa_cons pe_str (pa_cons (pe_ix (ix_tupC (K := K) rfl) (pv 1) (pv 4) (fun _ _ => rfl)) (pa_cons (pe_callB (call_max2 rfl) (by rfl) S.n_max (by decide +kernel) (pa_cons (pe_un un_neg pe_int) (pa_cons (pe_callB (call_min2 rfl) (by rfl) S.n_min (by decide +kernel) (pa_cons pe_int (pa_cons (pe_op op_sub (pe_ix (ix_listC (K := K) rfl) (pv 2) (pv 4) (fun _ _ => rfl)) (pv 3)) pa_nil))) pa_nil))) pa_nil))))))))), ?_⟩
    have get : ∀ {d : Int}, 0 ≤ d → d < N.length → ∃ z, atI (N.map V.str) d = some (.str z) ∧ z ∈ N ∧ N[d.toNat]? = some z := fun {d} h0 h1 => by
      have hl : d.toNat < N.length := by omega
      have e : d = ((d.toNat : Nat) : Int) := (Int.toNat_of_nonneg h0).symm
      exact ⟨N[d.toNat], (congrArg (atI _) e).trans (atI_nat (by rw [List.getElem?_map, List.getElem?_eq_getElem hl] <;> rfl)), List.getElem_mem hl, List.getElem?_eq_getElem hl⟩
    have getb : ∀ {d : Int}, 0 ≤ d → d < N.length → ∃ z, atI (bs.map V.int) d = some (.int z) := fun {d} h0 h1 => by
      have hl : d.toNat < bs.length := by omega
      have e : d = ((d.toNat : Nat) : Int) := (Int.toNat_of_nonneg h0).symm
      exact ⟨bs[d.toNat], (congrArg (atI _) e).trans (atI_nat (by rw [List.getElem?_map, List.getElem?_eq_getElem hl] <;> rfl))⟩
    walk_at "go"
    refine ⟨F, 40, rfl, by decide, by decide, fl, fun H1 d1 k1 _ _ => ?_⟩
    walk_at "go"
    refine ⟨F, 5, rfl, by decide, by decide, k1.fl, fun H2 d2 k2 _ _ => ?_⟩
    walk_at "go"
    refine ⟨szc rfl, fun p hp => ?_⟩
    have k3 := FK.new (o := .lst [.int 0, .int 0, .int 0, .int 1, .int 1, .int 2, .int 5, .int d1, .int (-1), .int (d2 - 2)]) (k1.trans k2) hp
    have pF := k2.fl.ne_new hp
    walk_at "go"
    refine ⟨F, p, _, rfl, k3.fl, .inl ⟨upd_same, pF⟩, List.cons_ne_nil _ _, Nat.le_of_ble_eq_true rfl, fun H4 v k4 hv => ?_⟩
    have k04 := k3.trans k4
    obtain ⟨sp, rfl⟩ : ∃ i, v = .int i := by
      simp only [List.mem_cons, List.not_mem_nil, or_false] at hv
      rcases hv with h | h | h | h | h | h | h | h | h | h <;> exact ⟨_, h⟩
    have hf4 := k04.tup fl hf
    walk_at "go"
    refine ⟨F, _, rfl, by rw [List.length_map]; omega, by rw [List.length_map]; omega, k4.fl, fun H5 at_ k5 a0 a1 => ?_⟩
    rw [List.length_map] at a1
    have hf5 := k5.tup k4.fl hf4
    walk_at "go"
    refine ⟨F, _, rfl, by rw [List.length_map]; omega, by rw [List.length_map]; omega, k5.fl, fun H6 to_ k6 t0 t1 => ?_⟩
    rw [List.length_map] at t1
    have k06 := (k04.trans k5).trans k6
    have hf6 := k06.tup fl hf
    have hb6 := k06.get hb nF
    obtain ⟨x, ex, hx, hxi⟩ := get a0 a1
    obtain ⟨y, ey, hy, hyi⟩ := get t0 t1
    obtain ⟨bx, ebx⟩ := getb a0 a1
    obtain ⟨by_, eby⟩ := getb t0 t1
    walk_at "go"
    refine ifb (fun h => ?_) fun h => ?_
    · have nat_ : at_ ≠ to_ := by simpa using h
      have nxy : x ≠ y := fun z => by
        rw [z] at hxi
        obtain ⟨h1, e1⟩ := List.getElem?_eq_some_iff.mp hxi
        obtain ⟨h2, e2⟩ := List.getElem?_eq_some_iff.mp hyi
        rcases Nat.lt_or_gt_of_ne (show at_.toNat ≠ to_.toNat by omega) with g | g
        · exact List.pairwise_iff_getElem.mp nd _ _ h1 h2 g (e1.trans e2.symm)
        · exact List.pairwise_iff_getElem.mp nd _ _ h2 h1 g (e2.trans e1.symm)
      walk_at "go"
      refine ⟨F, 4, rfl, by decide, by decide, k6.fl, fun H7 d7 k7 _ _ => ?_⟩
      have k07 := k06.trans k7
      have hf7 := k07.tup fl hf
      have hb7 := k07.get hb nF
      walk_at "go"
      refine ifb (fun h => ?_) fun h => ?_
      · walk_at "go"
        refine rd_ixL hb7 ebx ?_
        walk_at "go"
        refine rd_ixL hb7 eby ?_
        walk_at "go"
        refine rd_ixT hf7 ex ?_
        walk_at "go"
        refine rd_ixT hf7 ey ?_
        walk_at "go"
        refine ⟨szc rfl, fun p8 hp8 => ?_⟩
        exact q _ p8 (.gap x y _) (k07.new hp8) upd_same ⟨hx, hy, nxy, clampP _⟩
      · walk_at "go"
        refine ⟨F, 2, rfl, by decide, by decide, (k07).fl, fun H8 d8 k8 _ _ => ?_⟩
        have k08 := (k07).trans k8
        have hf8 := k08.tup fl hf
        have hb8 := k08.get hb nF
        walk_at "go"
        refine ifb (fun h => ?_) fun h => ?_
        · walk_at "go"
          refine rd_ixT hf8 ex ?_
          walk_at "go"
          refine rd_ixL hb8 ebx ?_
          walk_at "go"
          refine ⟨szc rfl, fun p8 hp8 => ?_⟩
          exact q _ p8 (.most x _) (k08.new hp8) upd_same ⟨hx, clampP _⟩
        · walk_at "go"
          refine rd_ixT hf8 ex ?_
          walk_at "go"
          refine rd_ixL hb8 ebx ?_
          walk_at "go"
          refine ⟨szc rfl, fun p8 hp8 => ?_⟩
          exact q _ p8 (.least x _) (k08.new hp8) upd_same ⟨hx, clampP _⟩
    · walk_at "go"
      refine ⟨F, 2, rfl, by decide, by decide, (k06).fl, fun H8 d8 k8 _ _ => ?_⟩
      have k08 := (k06).trans k8
      have hf8 := k08.tup fl hf
      have hb8 := k08.get hb nF
      walk_at "go"
      refine ifb (fun h => ?_) fun h => ?_
      · walk_at "go"
        refine rd_ixT hf8 ex ?_
        walk_at "go"
        refine rd_ixL hb8 ebx ?_
        walk_at "go"
        refine ⟨szc rfl, fun p8 hp8 => ?_⟩
        exact q _ p8 (.most x _) (k08.new hp8) upd_same ⟨hx, clampP _⟩
      · walk_at "go"
        refine rd_ixT hf8 ex ?_
        walk_at "go"
        refine rd_ixL hb8 ebx ?_
        walk_at "go"
        refine ⟨szc rfl, fun p8 hp8 => ?_⟩
        exact q _ p8 (.least x _) (k08.new hp8) upd_same ⟨hx, clampP _⟩
end
end K59
/-! K59L3 -/
set_option Elab.async false
set_option linter.all false
set_option maxRecDepth 100000
set_option maxHeartbeats 4000000
namespace K59
open PySem PySem.W PySem.Calls PySem.Spec PyProof.Rows L2
local macro_rules | `(tactic| walk_at "hp") => `(tactic| first
  | assumption
  | exact upd_same
  | (refine same_new (by assumption) _ _ ?_; walk_at "hp")
  | (refine (by assumption : Same _ _) _ _ ?_; walk_at "hp")
  | (refine FK.tk (by assumption) (by assumption) _ _ ?_; walk_at "hp"))
local macro_rules | `(tactic| walk_at "sq") => `(tactic| first
  | assumption
  | exact FrzT.sq (by assumption)
  | (refine sqt_new (by assumption) ?_; walk_at "sq")
  | (refine sqt_same ?_ (by assumption); walk_at "sq"))
local macro_rules | `(tactic| walk_at "fz") => `(tactic| first
  | assumption
  | (refine frz_new (by assumption) ?_; walk_at "fz")
  | (refine FrzT.same ?_ (by assumption); walk_at "fz"))
local macro_rules | `(tactic| walk_at "ic") => `(tactic| first
  | ((with_reducible show (0 : Int) < _); decide)
  | exact Or.inl ⟨by decide, by decide⟩
  | exact Or.inr ⟨by decide, by decide⟩
  | exact (show (0 : Int) < _ ∧ _ < (1073741824 : Int) from ⟨by decide, by decide⟩)
  | exact (show (0 : Int) ≤ _ ∧ _ ≤ (1000000 : Int) ∧ Int.natAbs _ < 2 ^ 64 from ⟨by decide, by decide, by decide⟩)
  | exact (⟨by decide, by decide, by decide⟩ : _ ∧ _ ∧ _))
local macro_rules | `(tactic| walk_at "st") => `(tactic| first
  | with_reducible refine rd_var rfl ?_
  | with_reducible refine rd_c ?_
  | with_reducible refine rd_cons ?_
  | with_reducible refine rd_nil ?_
  | with_reducible refine rd_op ?_
  | with_reducible refine rd_cb ?_
  | with_reducible refine rd_call ?_
  | with_reducible refine rd_test ?_
  | with_reducible refine rd_B ?_
  | with_reducible refine rd_bl ?_
  | with_reducible refine rd_un ?_
  | with_reducible refine rd_and ?_
  | with_reducible refine rd_or ?_
  | with_reducible refine rd_not ?_
  | with_reducible refine rd_andV ?_
  | with_reducible refine rd_orV ?_
  | with_reducible refine rd_notV ?_
  | with_reducible refine rd_if ?_
  | with_reducible refine rd_chain ?_
  | with_reducible refine rd_I0 ?_
  | with_reducible refine rd_U ?_
  | with_reducible refine rd_eqI ?_
  | with_reducible refine rd_neI ?_
  | with_reducible refine rd_eqS ?_
  | with_reducible refine rd_neS ?_
  | with_reducible refine rd_nn ?_
  | with_reducible refine rd_asg ?_
  | with_reducible refine rd_gname ?_
  | with_reducible refine rd_seq ?_
  | with_reducible refine rd_ifS ?_
  | with_reducible refine rd_ret ?_
  | with_reducible refine rd_next ?_
  | with_reducible refine rd_cont ?_
  | with_reducible refine rd_drop ?_
  | with_reducible refine rd_par ?_
  | with_reducible refine rd_vs2 ?_
  | with_reducible refine rd_gsub ?_
  | with_reducible refine rd_gcons ?_
  | with_reducible refine rd_gnil ?_
  | with_reducible refine rd_tup ?_
  | with_reducible refine rd_lst ?_
  | with_reducible refine rd_sl ?_
  | with_reducible refine rd_part ?_
  | with_reducible refine rd_nopart ?_
  | with_reducible refine rd_i1 ?_
  | with_reducible refine rd_bm ?_
  | with_reducible refine rd_yes ?_
  | with_reducible refine rd_lcT ?_
  | with_reducible refine rd_lcL ?_
  | with_reducible refine rd_lcR1 ?_
  | with_reducible refine rd_lcS ?_
  | with_reducible refine rd_forT ?_
  | with_reducible refine rd_forL ?_
  | with_reducible refine rd_forR1 ?_
  | with_reducible refine rd_atS ?_
  | with_reducible refine rd_forEn ?_
  | with_reducible refine rd_dget ?_
  | with_reducible refine rd_din ?_
  | with_reducible refine rd_dget2 ?_
  | with_reducible refine rd_dput ?_
  | with_reducible refine rd_disp ?_
  | with_reducible refine rd_pcons ?_
  | with_reducible refine rd_pnil ?_
  | with_reducible refine rd_dcL ?_
  | with_reducible refine rd_lcEn ?_
  | with_reducible refine rd_yS ?_
  | with_reducible refine rd_m1 ?_
  | with_reducible refine rd_meth ?_
  | with_reducible refine rd_fld ?_
  | with_reducible refine rd_sfld ?_
  | with_reducible refine rd_make ?_
  | with_reducible refine rd_fmt ?_
  | with_reducible refine rd_js ?_
  | with_reducible refine rd_js0 ?_
  | with_reducible refine iteT ?_
  | with_reducible refine iteF ?_
  | ((with_reducible refine isi_int (d := ?d1) (N := ?n1) ?h1 ?_); (case h1 => assumption))
  | ((with_reducible refine isi_bool (d := ?d1) (N := ?n1) ?h1 ?_); (case h1 => assumption))
  | ((with_reducible refine isi_str (d := ?d1) (N := ?n1) ?h1 ?_); (case h1 => assumption))
  | ((with_reducible refine isi_tuple (d := ?d1) (N := ?n1) ?h1 ?_); (case h1 => assumption))
  | with_reducible refine isi_str (N := fun _ => True) (Da.str _) ?_
  | with_reducible refine isi_int (N := fun _ => True) (Da.int _) ?_
  | with_reducible refine isi_bool (N := fun _ => True) (Da.int _) ?_
  | with_reducible refine isi_str (N := fun _ => True) (Da.int _) ?_
  | ((with_reducible show (wipe _ _ = wipe _ _) ∧ _); refine ⟨rfl, ?_⟩)
  | ((with_reducible show Ends.nx _ _ _); dsimp only)
  | ((with_reducible show Ends.rt _ _ _); dsimp only)
  | ((with_reducible show Ends.ct _ _ _); dsimp only)
  | ((with_reducible refine rd_ixT (xs := ?x1) (v := ?v1) ?h1 ?e1 ?_); (case h1 => walk_at "hp"); (case e1 => rfl))
  | ((with_reducible refine rd_ixL (xs := ?x1) (v := ?v1) ?h1 ?e1 ?_); (case h1 => walk_at "hp"); (case e1 => rfl))
  | ((with_reducible refine rd_lenT (xs := ?x1) ?h1 ?_); (case h1 => walk_at "hp"))
  | ((with_reducible refine rd_lenL (xs := ?x1) ?h1 ?_); (case h1 => walk_at "hp"))
  | ((with_reducible refine rd_tupOf (xs := ?x1) ?h1 ?_); (case h1 => walk_at "hp"))
  | ((with_reducible refine rd_all (bs := ?x1) ?h1 ?_); (case h1 => walk_at "hp"))
  | ((with_reducible refine rd_atT (xs := ?x1) ?h1 ?_); (case h1 => walk_at "hp"))
  | ((with_reducible refine rd_atL (xs := ?x1) ?h1 ?_); (case h1 => walk_at "hp"))
  | ((with_reducible refine rd_gtup (xs := ?x1) ?h1 ?e1 ?_); (case h1 => walk_at "hp"); (case e1 => rfl))
  | ((with_reducible refine rd_atEn (xs := ?x1) ?h1 ?_); (case h1 => walk_at "hp"))
  | ((with_reducible refine rd_slT (xs := ?x1) ?h1 ?_); (case h1 => walk_at "hp"))
  | ((with_reducible refine rd_slL (xs := ?x1) ?h1 ?_); (case h1 => walk_at "hp"))
  | ((with_reducible refine rd_inN (N := ?x1) ?h1 ?_); (case h1 => walk_at "hp"))
  | ((with_reducible refine rd_inL (N := ?x1) ?h1 ?_); (case h1 => walk_at "hp"))
  | ((with_reducible refine rd_notInN (N := ?x1) ?h1 ?_); (case h1 => walk_at "hp"))
  | ((with_reducible refine rd_notInL (N := ?x1) ?h1 ?_); (case h1 => walk_at "hp"))
  | with_reducible refine rd_tm ?_
  | ((with_reducible refine rd_isF (xs := ?x1) ?h1 ?_); (case h1 => walk_at "fz"))
  | ((with_reducible refine rd_lenTq (xs := ?x1) ?h1 ?_); (case h1 => walk_at "sq"))
  | ((with_reducible refine rd_atTq (xs := ?x1) ?h1 ?_); (case h1 => walk_at "sq"))
  | ((with_reducible refine rd_atEnq (xs := ?x1) ?h1 ?_); (case h1 => walk_at "sq"))
  | ((with_reducible refine rd_slTq (xs := ?x1) ?h1 ?_); (case h1 => walk_at "sq"))
  | ((with_reducible refine rd_inNq (N := ?x1) ?h1 ?_); (case h1 => walk_at "sq"))
  | ((with_reducible refine rd_setL (xs := ?x1) (j := ?j1) ?h1 ?e1 ?_); (case h1 => walk_at "hp"); (case e1 => rfl))
  | with_reducible refine rd_int1 ?_
  | with_reducible refine rd_x1 ?_
  | with_reducible refine rd_x2 ?_
  | ((with_reducible refine rd_tyL (xs := ?x1) ?h1 ?_); (case h1 => walk_at "hp"))
  | ((with_reducible refine rd_ixsL (xs := ?x1) (v := ?v1) ?h1 ?e1 ?_); (case h1 => walk_at "hp"); (case e1 => rfl))
  | ((with_reducible refine rd_ixsT (xs := ?x1) (v := ?v1) ?h1 ?e1 ?_); (case h1 => walk_at "hp"); (case e1 => rfl))
  | ((with_reducible refine rd_I ?c1 ?_); (case c1 => walk_at "ic"))
  | ((with_reducible refine if_t ?hb1 ?_); (case hb1 => rfl))
  | ((with_reducible refine if_f ?hb1 ?_); (case hb1 => rfl)))
local macro_rules | `(tactic| walk_at "go") => `(tactic| repeat (first | walk_at "st" | dsimp only))
section
variable {P : Program} {w : World} {K : Frag} {mg : Str → Option Value} {base : Heap}

abbrev N_L_shape : List Str := ["_law_flask_here", "_law_most", "_law_bonds_most", "_law_folk", "_law_wide", "_law_base", "_law_each", "_law_turn"]
theorem sc_L_shape : FnScope N_L_shape ["_law_flask_here", "_law_most", "_law_bonds_most"] (defScope s_L_shape) := ⟨rfl, rfl, rfl, by decide +kernel, rfl, by decide +kernel, by decide +kernel⟩
def sp_shape : Sp := fun vs H Q _ => ∃ F, vs = [.ref F, .int 5, .int 9] ∧ Fl H F ∧ ∀ H' p, ∀ N : List Str, ∀ R : List Rl, FK F H H' → ShapeAt H' p N R → FormOk N R → Q (.ref p) H'
theorem c_L_shape (S : Sys K mg) : C8.Cal P w K mg base 4 "_law_shape" sp_shape [] := by
  refine calD S.f_D_L_shape S.g_L_shape sc_L_shape (fun _ _ _ _ _ _ us hl => match us, hl with | [_, _, _], _ => rfl) ?_ ?_
  · rintro vs H Q E ⟨_, rfl, _⟩
    rfl
  · rintro cdv A outer s H vs Q E hr ⟨F, rfl, fl, q⟩
    refine ⟨_, pss_cons (ps_set (i := 3) sc_L_shape.nd rfl (Or.inr rfl) (C8.pe_c (c_L_tags (K := K) S) hr (by decide) rfl (pa_cons (pv 0) (pa_cons (pe_op op_add pe_int (C8.pe_c (c_L_drop (K := K) S) hr (by decide) rfl (pa_cons (pv 0) (pa_cons (pv 1) pa_nil)))) pa_nil))))
      (pss_cons (ps_set (i := 4) sc_L_shape.nd rfl (Or.inr rfl) (C8.pe_c (c_L_of (K := K) S) hr (by decide) rfl (pa_cons (pv 0) (pa_cons (pe_lst (pa_cons pe_int (pa_cons pe_int (pa_cons pe_int (pa_cons pe_int pa_nil))))) pa_nil))))
      (pss_cons (ps_set (i := 5) sc_L_shape.nd rfl (Or.inr rfl) (pe_lc (own := [("_law_each", 6)]) (g := gName 6) (tt := tYes) rfl sc_L_shape.nd (pi_tupC (K := K) rfl (pv 3)) (blkOk_by (N := N_L_shape) (sc := defScope s_L_shape) (by decide +kernel)) (fun _ _ _ _ _ => (pg_name (i := 6) sc_L_shape.nd rfl (Or.inl rfl))) (fun _ _ _ _ _ => pts_nil) (fun _ _ _ _ _ => (pe_op op_sub (C8.pe_c (c_L_drop (K := K) S) hr (by decide) rfl (pa_cons (pv 0) (pa_cons (pe_op op_add (pe_op op_mul pe_int (pv 4)) pe_int) pa_nil))) (pv 4)))))
      (pss_one (ps_ret (pe_tup (pa_cons (pv 3) (pa_cons (pe_callTy (call_tuple_ofC (K := K) rfl) (by rfl) S.n_tuple (by decide +kernel) (pa_cons (pe_lc (own := [("_law_turn", 7)]) (g := gName 7) (tt := tYes) rfl sc_L_shape.nd (pi_range1 (by rfl) S.n_range (pa_cons (C8.pe_c (c_L_drop (K := K) S) hr (by decide) rfl (pa_cons (pv 0) (pa_cons (pe_op op_add (pv 2) pe_int) pa_nil))) pa_nil)) (blkOk_by (N := N_L_shape) (sc := defScope s_L_shape) (by decide +kernel)) (fun _ _ _ _ _ => (pg_name (i := 7) sc_L_shape.nd rfl (Or.inl rfl))) (fun _ _ _ _ _ => pts_nil) (fun _ _ _ _ _ => (C8.pe_c (c_L_bond (K := K) S) hr (by decide) rfl (pa_cons (pv 0) (pa_cons (pv 3) (pa_cons (pv 5) pa_nil)))))) pa_nil)) pa_nil))))))), ?_⟩
    walk_at "go"
    refine ⟨F, 5, rfl, by decide, by decide, fl, fun H1 d1 k1 a0 a1 => ?_⟩
    walk_at "go"
    refine ⟨F, (1 + d1).toNat, _, rfl, by omega, by omega, k1.fl, fun H2 pf N k2 e2 nl nd mn => ?_⟩
    walk_at "go"
    refine ⟨szc rfl, fun p hp => ?_⟩
    have k3 := FK.new (o := .lst [.int 3, .int 3, .int 9, .int 400]) (k1.trans k2) hp
    have pF := k2.fl.ne_new hp
    have f3 := same_new (o := .lst [.int 3, .int 3, .int 9, .int 400]) hp _ _ e2
    walk_at "go"
    refine ⟨F, p, _, rfl, k3.fl, .inl ⟨upd_same, pF⟩, List.cons_ne_nil _ _, by decide, fun H4 v k4 hv => ?_⟩
    obtain ⟨w', rfl, hw⟩ : ∃ i, v = .int i ∧ 3 ≤ i ∧ i ≤ 400 := by
      simp only [List.mem_cons, List.not_mem_nil, or_false] at hv
      rcases hv with h | h | h | h <;> exact ⟨_, h, by decide, by decide⟩
    have k04 := k3.trans k4
    have f4 := k4.tup k3.fl f3
    walk_at "go"
    refine lcF (F := F) walk_tup k4.fl (fun j acc _ => ∃ bs : List Int, acc = bs.map V.int ∧ bs.length = j) (fun _ _ _ _ _ h => h) ⟨[], rfl, rfl⟩ (by rw [List.length_map]; omega) (fun H5 k5 => .inl (.inl (k5.tup k4.fl f4))) (fun j x acc H5 H5' hj k5 f _ hY Qy Qn hQ _ => ?_) fun L H5 acc hL k5 e f _ => ?_
    · obtain ⟨rfl, hx⟩ := hY
      obtain ⟨bs, rfl, hb⟩ := f
      walk_at "go"
      refine ⟨F, _, rfl, by omega, by omega, k5.fl, fun H6 d6 k6 _ _ => ?_⟩
      walk_at "go"
      exact hQ _ _ k6 ⟨bs ++ [d6 - w'], by rw [List.map_append] <;> rfl, by rw [List.length_append, hb] <;> rfl⟩
    obtain ⟨bs, rfl, hb⟩ := f
    rw [List.length_map] at hb
    have LF : L ≠ F := k4.fl.ne_new hL
    have f5 := k5.tup k4.fl f4
    have k05 := k04.trans k5
    walk_at "go"
    refine ⟨F, 10, rfl, by decide, by decide, k5.fl, fun H6 d6 k6 b0 b1 => ?_⟩
    have f6 := k6.tup k5.fl f5
    have e6 := k6.get e LF
    walk_at "go"
    refine ⟨by omega, by omega, ?_⟩
    have ed : ((d6.toNat : Nat) : Int) = d6 := Int.toNat_of_nonneg b0
    refine lcF (F := F) (n := d6.toNat) walk_r0 k6.fl (fun j acc H7 => ∃ as : List Addr, ∃ Rs : List Rl, acc = as.map V.ref ∧ RlsAt H7 as Rs ∧ Rs.length ≤ j ∧ ∀ r ∈ Rs, RlOk N r) (fun _ _ _ _ t ⟨as, Rs, a, b, c⟩ => ⟨as, Rs, a, b.tk t, c⟩) ⟨[], [], rfl, RlsAt.nil, Nat.le_refl _, fun r h => by cases h⟩ (by omega) (fun _ _ => trivial) (fun j x acc H7 H7' hj k7 f _ hY Qy Qn hQ _ => ?_) fun L2 H7 acc hL2 k7 e7 f _ => ?_
    · obtain ⟨rfl, rfl⟩ := hY
      obtain ⟨as, Rs, rfl, ra, rl, ro⟩ := f
      walk_at "go"
      refine ⟨F, pf, L, N, bs, rfl, k7.fl, k7.tup k6.fl f6, by omega, by omega, nd, k7.get e6 LF, LF, hb, fun H8 p8 r k8 e8 or => ?_⟩
      refine hQ _ _ k8 ⟨as ++ [p8], Rs ++ [r], by rw [List.map_append] <;> rfl, (ra.tk (k8.tk k7.fl)).snoc e8, by rw [List.length_append]; exact Nat.succ_le_succ rl, fun x hx => ?_⟩
      rcases List.mem_append.mp hx with h | h
      · exact ro x h
      · rw [List.mem_singleton.mp h]
        exact or
    · obtain ⟨as, Rs, rfl, ra, rl, ro⟩ := f
      walk_at "go"
      intro p8 hp8
      have s8 := same_new (o := .tup (as.map V.ref)) hp8
      have e8 : upd H7 p8 (.tup (as.map V.ref)) p8 = some (.tup (as.map V.ref)) := upd_same
      have k8 := ((k05.trans k6).trans k7).same s8
      have f8 := s8 _ _ (k7.tup k6.fl f6)
      have ra8 := ra.tk (Same.tk s8)
      generalize upd H7 p8 (.tup (as.map V.ref)) = H8 at s8 e8 k8 f8 ra8
      walk_at "go"
      refine ⟨szc rfl, fun p9 hp9 => ?_⟩
      have s9 := same_new (o := .tup [.ref pf, .ref p8]) hp9
      exact q _ p9 N Rs (k8.same s9) ⟨⟨pf, p8, as, upd_same, s9 _ _ f8, s9 _ _ e8, ra8.tk (Same.tk s9)⟩⟩ ⟨by omega, by omega, nd, mn, by omega, ro⟩
abbrev N_L_ends : List Str := ["_law_bond_here"]
theorem sc_L_ends : FnScope N_L_ends ["_law_bond_here"] (defScope s_L_ends) := ⟨rfl, rfl, rfl, by decide +kernel, rfl, by decide +kernel, by decide +kernel⟩
def endsL (r : Rl) : List V := [.str r.hi, .str r.lo, .int r.bd]
def sp_ends : Sp := fun vs H Q _ => ∃ a r, vs = [.ref a] ∧ H a = some (.tup (rv r)) ∧ ∀ H' p, Same H H' → H' p = some (.tup (endsL r)) → Q (.ref p) H'
theorem c_L_ends (S : Sys K mg) : C8.Cal P w K mg base 1 "_law_ends" sp_ends [] := by
  refine calD S.f_D_L_ends S.g_L_ends sc_L_ends (fun _ _ _ _ _ _ us hl => match us, hl with | [_], _ => rfl) ?_ ?_
  · rintro vs H Q E ⟨_, _, rfl, _⟩
    rfl
  · rintro cdv A outer s H vs Q E hr ⟨a, r, rfl, ha, q⟩
    refine ⟨_, pss_cons (ps_if (pt_cmpR op_eq (pe_ix (ix_tupC (K := K) rfl) (pv 0) pe_int (fun _ _ => rfl)) pe_str (nomark _)) (pss_one (ps_ret (pe_tup (pa_cons (pe_ix (ix_tupC (K := K) rfl) (pv 0) pe_int (fun _ _ => rfl)) (pa_cons (pe_ix (ix_tupC (K := K) rfl) (pv 0) pe_int (fun _ _ => rfl)) (pa_cons (pe_ix (ix_tupC (K := K) rfl) (pv 0) pe_int (fun _ _ => rfl)) pa_nil)))))) pss_nil)
      (pss_one (ps_ret (pe_ifExp (pt_cmpR op_eq (pe_ix (ix_tupC (K := K) rfl) (pv 0) pe_int (fun _ _ => rfl)) pe_str (nomark _)) (pe_tup (pa_cons (pe_ix (ix_tupC (K := K) rfl) (pv 0) pe_int (fun _ _ => rfl)) (pa_cons pe_str (pa_cons (pe_ix (ix_tupC (K := K) rfl) (pv 0) pe_int (fun _ _ => rfl)) pa_nil)))) (pe_tup (pa_cons pe_str (pa_cons (pe_ix (ix_tupC (K := K) rfl) (pv 0) pe_int (fun _ _ => rfl)) (pa_cons (pe_un un_neg (pe_ix (ix_tupC (K := K) rfl) (pv 0) pe_int (fun _ _ => rfl))) pa_nil))))))), ?_⟩
    cases r with
    | gap x y c =>
      walk_at "go"
      exact ⟨szc rfl, fun p hp => q _ p (same_new hp) upd_same⟩
    | most x c =>
      walk_at "go"
      exact ⟨szc rfl, fun p hp => q _ p (same_new hp) upd_same⟩
    | least x c =>
      walk_at "go"
      exact ⟨szc rfl, fun p hp => q _ p (same_new hp) upd_same⟩
end
end K59
/-! K59L4 -/
set_option Elab.async false
set_option linter.all false
set_option maxRecDepth 100000
set_option maxHeartbeats 4000000
namespace K59
open PySem PySem.W PySem.Calls PySem.Spec PyProof.Rows L2
local macro_rules | `(tactic| walk_at "hp") => `(tactic| first
  | assumption
  | exact upd_same
  | (refine same_new (by assumption) _ _ ?_; walk_at "hp")
  | (refine (by assumption : Same _ _) _ _ ?_; walk_at "hp")
  | (refine FK.tk (by assumption) (by assumption) _ _ ?_; walk_at "hp"))
local macro_rules | `(tactic| walk_at "sq") => `(tactic| first
  | assumption
  | exact FrzT.sq (by assumption)
  | (refine sqt_new (by assumption) ?_; walk_at "sq")
  | (refine sqt_same ?_ (by assumption); walk_at "sq"))
local macro_rules | `(tactic| walk_at "fz") => `(tactic| first
  | assumption
  | (refine frz_new (by assumption) ?_; walk_at "fz")
  | (refine FrzT.same ?_ (by assumption); walk_at "fz"))
local macro_rules | `(tactic| walk_at "ic") => `(tactic| first
  | ((with_reducible show (0 : Int) < _); decide)
  | exact Or.inl ⟨by decide, by decide⟩
  | exact Or.inr ⟨by decide, by decide⟩
  | exact (show (0 : Int) < _ ∧ _ < (1073741824 : Int) from ⟨by decide, by decide⟩)
  | exact (show (0 : Int) ≤ _ ∧ _ ≤ (1000000 : Int) ∧ Int.natAbs _ < 2 ^ 64 from ⟨by decide, by decide, by decide⟩)
  | exact (⟨by decide, by decide, by decide⟩ : _ ∧ _ ∧ _))
local macro_rules | `(tactic| walk_at "st") => `(tactic| first
  | with_reducible refine rd_var rfl ?_
  | with_reducible refine rd_c ?_
  | with_reducible refine rd_cons ?_
  | with_reducible refine rd_nil ?_
  | with_reducible refine rd_op ?_
  | with_reducible refine rd_cb ?_
  | with_reducible refine rd_call ?_
  | with_reducible refine rd_test ?_
  | with_reducible refine rd_B ?_
  | with_reducible refine rd_bl ?_
  | with_reducible refine rd_un ?_
  | with_reducible refine rd_and ?_
  | with_reducible refine rd_or ?_
  | with_reducible refine rd_not ?_
  | with_reducible refine rd_andV ?_
  | with_reducible refine rd_orV ?_
  | with_reducible refine rd_notV ?_
  | with_reducible refine rd_if ?_
  | with_reducible refine rd_chain ?_
  | with_reducible refine rd_I0 ?_
  | with_reducible refine rd_U ?_
  | with_reducible refine rd_eqI ?_
  | with_reducible refine rd_neI ?_
  | with_reducible refine rd_eqS ?_
  | with_reducible refine rd_neS ?_
  | with_reducible refine rd_nn ?_
  | with_reducible refine rd_asg ?_
  | with_reducible refine rd_gname ?_
  | with_reducible refine rd_seq ?_
  | with_reducible refine rd_ifS ?_
  | with_reducible refine rd_ret ?_
  | with_reducible refine rd_next ?_
  | with_reducible refine rd_cont ?_
  | with_reducible refine rd_drop ?_
  | with_reducible refine rd_par ?_
  | with_reducible refine rd_vs2 ?_
  | with_reducible refine rd_gsub ?_
  | with_reducible refine rd_gcons ?_
  | with_reducible refine rd_gnil ?_
  | with_reducible refine rd_tup ?_
  | with_reducible refine rd_lst ?_
  | with_reducible refine rd_sl ?_
  | with_reducible refine rd_part ?_
  | with_reducible refine rd_nopart ?_
  | with_reducible refine rd_i1 ?_
  | with_reducible refine rd_bm ?_
  | with_reducible refine rd_yes ?_
  | with_reducible refine rd_lcT ?_
  | with_reducible refine rd_lcL ?_
  | with_reducible refine rd_lcR1 ?_
  | with_reducible refine rd_lcS ?_
  | with_reducible refine rd_forT ?_
  | with_reducible refine rd_forL ?_
  | with_reducible refine rd_forR1 ?_
  | with_reducible refine rd_atS ?_
  | with_reducible refine rd_forEn ?_
  | with_reducible refine rd_dget ?_
  | with_reducible refine rd_din ?_
  | with_reducible refine rd_dget2 ?_
  | with_reducible refine rd_dput ?_
  | with_reducible refine rd_disp ?_
  | with_reducible refine rd_pcons ?_
  | with_reducible refine rd_pnil ?_
  | with_reducible refine rd_dcL ?_
  | with_reducible refine rd_lcEn ?_
  | with_reducible refine rd_yS ?_
  | with_reducible refine rd_m1 ?_
  | with_reducible refine rd_meth ?_
  | with_reducible refine rd_fld ?_
  | with_reducible refine rd_sfld ?_
  | with_reducible refine rd_make ?_
  | with_reducible refine rd_fmt ?_
  | with_reducible refine rd_js ?_
  | with_reducible refine rd_js0 ?_
  | with_reducible refine iteT ?_
  | with_reducible refine iteF ?_
  | ((with_reducible refine isi_int (d := ?d1) (N := ?n1) ?h1 ?_); (case h1 => assumption))
  | ((with_reducible refine isi_bool (d := ?d1) (N := ?n1) ?h1 ?_); (case h1 => assumption))
  | ((with_reducible refine isi_str (d := ?d1) (N := ?n1) ?h1 ?_); (case h1 => assumption))
  | ((with_reducible refine isi_tuple (d := ?d1) (N := ?n1) ?h1 ?_); (case h1 => assumption))
  | with_reducible refine isi_str (N := fun _ => True) (Da.str _) ?_
  | with_reducible refine isi_int (N := fun _ => True) (Da.int _) ?_
  | with_reducible refine isi_bool (N := fun _ => True) (Da.int _) ?_
  | with_reducible refine isi_str (N := fun _ => True) (Da.int _) ?_
  | ((with_reducible show (wipe _ _ = wipe _ _) ∧ _); refine ⟨rfl, ?_⟩)
  | ((with_reducible show Ends.nx _ _ _); dsimp only)
  | ((with_reducible show Ends.rt _ _ _); dsimp only)
  | ((with_reducible show Ends.ct _ _ _); dsimp only)
  | ((with_reducible refine rd_ixT (xs := ?x1) (v := ?v1) ?h1 ?e1 ?_); (case h1 => walk_at "hp"); (case e1 => rfl))
  | ((with_reducible refine rd_ixL (xs := ?x1) (v := ?v1) ?h1 ?e1 ?_); (case h1 => walk_at "hp"); (case e1 => rfl))
  | ((with_reducible refine rd_lenT (xs := ?x1) ?h1 ?_); (case h1 => walk_at "hp"))
  | ((with_reducible refine rd_lenL (xs := ?x1) ?h1 ?_); (case h1 => walk_at "hp"))
  | ((with_reducible refine rd_tupOf (xs := ?x1) ?h1 ?_); (case h1 => walk_at "hp"))
  | ((with_reducible refine rd_all (bs := ?x1) ?h1 ?_); (case h1 => walk_at "hp"))
  | ((with_reducible refine rd_atT (xs := ?x1) ?h1 ?_); (case h1 => walk_at "hp"))
  | ((with_reducible refine rd_atL (xs := ?x1) ?h1 ?_); (case h1 => walk_at "hp"))
  | ((with_reducible refine rd_gtup (xs := ?x1) ?h1 ?e1 ?_); (case h1 => walk_at "hp"); (case e1 => rfl))
  | ((with_reducible refine rd_atEn (xs := ?x1) ?h1 ?_); (case h1 => walk_at "hp"))
  | ((with_reducible refine rd_slT (xs := ?x1) ?h1 ?_); (case h1 => walk_at "hp"))
  | ((with_reducible refine rd_slL (xs := ?x1) ?h1 ?_); (case h1 => walk_at "hp"))
  | ((with_reducible refine rd_inN (N := ?x1) ?h1 ?_); (case h1 => walk_at "hp"))
  | ((with_reducible refine rd_inL (N := ?x1) ?h1 ?_); (case h1 => walk_at "hp"))
  | ((with_reducible refine rd_notInN (N := ?x1) ?h1 ?_); (case h1 => walk_at "hp"))
  | ((with_reducible refine rd_notInL (N := ?x1) ?h1 ?_); (case h1 => walk_at "hp"))
  | with_reducible refine rd_tm ?_
  | ((with_reducible refine rd_isF (xs := ?x1) ?h1 ?_); (case h1 => walk_at "fz"))
  | ((with_reducible refine rd_lenTq (xs := ?x1) ?h1 ?_); (case h1 => walk_at "sq"))
  | ((with_reducible refine rd_atTq (xs := ?x1) ?h1 ?_); (case h1 => walk_at "sq"))
  | ((with_reducible refine rd_atEnq (xs := ?x1) ?h1 ?_); (case h1 => walk_at "sq"))
  | ((with_reducible refine rd_slTq (xs := ?x1) ?h1 ?_); (case h1 => walk_at "sq"))
  | ((with_reducible refine rd_inNq (N := ?x1) ?h1 ?_); (case h1 => walk_at "sq"))
  | ((with_reducible refine rd_setL (xs := ?x1) (j := ?j1) ?h1 ?e1 ?_); (case h1 => walk_at "hp"); (case e1 => rfl))
  | with_reducible refine rd_int1 ?_
  | with_reducible refine rd_x1 ?_
  | with_reducible refine rd_x2 ?_
  | ((with_reducible refine rd_tyL (xs := ?x1) ?h1 ?_); (case h1 => walk_at "hp"))
  | ((with_reducible refine rd_ixsL (xs := ?x1) (v := ?v1) ?h1 ?e1 ?_); (case h1 => walk_at "hp"); (case e1 => rfl))
  | ((with_reducible refine rd_ixsT (xs := ?x1) (v := ?v1) ?h1 ?e1 ?_); (case h1 => walk_at "hp"); (case e1 => rfl))
  | ((with_reducible refine rd_I ?c1 ?_); (case c1 => walk_at "ic"))
  | ((with_reducible refine if_t ?hb1 ?_); (case hb1 => rfl))
  | ((with_reducible refine if_f ?hb1 ?_); (case hb1 => rfl)))
local macro_rules | `(tactic| walk_at "go") => `(tactic| repeat (first | walk_at "st" | dsimp only))
section
variable {P : Program} {w : World} {K : Frag} {mg : Str → Option Value} {base : Heap}

abbrev N_L_page : List Str := ["_law_shape_here", "_law_rows", "_law_bond_here", "_law_sign"]
theorem sc_L_page : FnScope N_L_page ["_law_shape_here"] (defScope s_L_page) := ⟨rfl, rfl, rfl, by decide +kernel, rfl, by decide +kernel, by decide +kernel⟩
def sgnOf (r : Rl) : Str := match r with
  | .gap _ _ _ => " <= "
  | .most _ _ => " <= "
  | .least _ _ => " >= "
theorem row_of (r : Rl) : rowS r = Txt.join " - " r.nm ++ sgnOf r ++ numS r.num := by
  cases r with
  | gap x y c => exact row_gap x y c
  | most x c => exact row_most x c
  | least x c => exact row_least x c
def sp_page : Sp := fun vs H Q _ => ∃ p, ∃ N : List Str, ∃ R, vs = [.ref p] ∧ ShapeAt H p N R ∧ FormOk N R ∧ ∀ H', Same H H' → Q (.str (pageS N R)) H'
theorem c_L_page (S : Sys K mg) : C8.Cal P w K mg base 1 "_law_page" sp_page [] := by
  refine calD S.f_D_L_page S.g_L_page sc_L_page (fun _ _ _ _ _ _ us hl => match us, hl with | [_], _ => rfl) ?_ ?_
  · rintro vs H Q E ⟨_, _, _, rfl, _⟩
    rfl
  · rintro cdv A outer s H vs Q E hr ⟨p, N, R, rfl, ⟨pf, pr, as, h1, h2, h3, h4⟩, ok, q⟩
    refine ⟨_, pss_cons (ps_set (i := 1) sc_L_page.nd rfl (Or.inl rfl) (pe_lst (pa_cons (pe_op op_add_str pe_str (pe_join pe_str (pe_ix (ix_tupC (K := K) rfl) (pv 0) pe_int (fun _ _ => rfl)))) pa_nil)))
      (pss_cons (ps_for PassesOwn.never rfl (pi_tupC (K := K) rfl (pe_ix (ix_tupC (K := K) rfl) (pv 0) pe_int (fun _ _ => rfl))) (pg_name (i := 2) sc_L_page.nd rfl (Or.inl rfl))
        (pss_cons (ps_set (i := 3) sc_L_page.nd rfl (Or.inl rfl) (pe_dget (hu_of hr) (pe_disp (pps_cons pe_str pe_str (pps_cons pe_str pe_str (pps_cons pe_str pe_str pps_nil))) (by rfl) (by rfl) (fun z => by cases z) (by decide)) (pe_ix (ix_tupC (K := K) rfl) (pv 2) pe_int (fun _ _ => rfl)) (fun _ _ => rfl)))
      (pss_one (ps_expr (pe_bm PySem.F.plainAttrs_list PySem.F.slot_list_append PySem.F.type_list_append mt_append (pv 1) (pa_cons (pe_op op_add_str (pe_op op_add_str (pe_join pe_str (pe_slice (sl_tupAC (K := K) rfl) (pv 2) (po_some pe_int) (po_some (pe_un un_neg pe_int)))) (pv 3)) (pe_callTy call_str_int (by rfl) S.n_str (by decide +kernel) (pa_cons (pe_ix (ix_tupC (K := K) rfl) (pv 2) (pe_un un_neg pe_int) (fun _ _ => rfl)) pa_nil))) pa_nil))))))
      (pss_one (ps_ret (pe_join pe_str (pv 1))))), ?_⟩
    have l7 := fields_len
    have l50 := names_len ok
    have n5 := ok.n5
    have r9 := ok.r9
    have lc : (", " : Str).length = 2 := by decide +kernel
    have ln : ("\n" : Str).length = 1 := by decide +kernel
    have s8 := sum_len (m := 8) (ys := N) fun y hy => menu_len y (ok.mn y hy)
    walk_at "go"
    refine ⟨", ", pf, N, rfl, rfl, .inr (.inl (.inl h2)), by rw [lc]; omega, ?_⟩
    refine ⟨_, _, rfl, rfl, sz (by omega), ?_⟩
    walk_at "go"
    refine ⟨szc rfl, fun L hL => ?_⟩
    have s1 := same_new (o := .lst [.str (("fields " : Str) ++ Txt.join ", " N)]) hL
    have e1 : upd H L (.lst [.str (("fields " : Str) ++ Txt.join ", " N)]) L = some (.lst [.str (headS N)]) := upd_same
    have h11 := s1 _ _ h1
    have h31 := s1 _ _ h3
    have h41 : RlsAt (upd H L (.lst [.str (("fields " : Str) ++ Txt.join ", " N)])) as R := h4.tk (Same.tk s1)
    generalize upd H L (.lst [.str (("fields " : Str) ++ Txt.join ", " N)]) = H1 at s1 e1 h11 h31 h41
    walk_at "go"
    have ll : (as.map V.ref).length = R.length := by rw [List.length_map, h4.1]
    refine forW (n := R.length) (G := fun H => SqT K H pr (as.map V.ref)) (Y := YAt (as.map V.ref)) (ll ▸ walk_tup) (fun j σ H2 => ∃ x2 x3, σ = [some (.ref p), some (.ref L), x2, x3] ∧ Same H H2 ∧ H2 L = some (.lst ((headS N :: (R.take j).map rowS).map V.str))) ⟨_, _, rfl, s1, e1⟩ (fun _ _ _ _ ⟨_, _, _, s, _⟩ => .inl (.inl (s _ _ h3))) (fun j x σ H2 H2' hj ⟨x2, x3, eσ, s2, e2⟩ hY => ?_) fun σ H2 ⟨x2, x3, eσ, s2, e2⟩ => ?_
    · obtain ⟨rfl, hx⟩ := hY
      obtain ⟨b, r, rfl, hb, hrr, hat⟩ := (h4.tk (Same.tk s2)).get hx
      have or := ok.rl r (List.mem_of_getElem? hrr)
      have rl45 := row_len ok.mn or
      subst eσ
      walk_at "go"
      intro pd hpd
      walk_at "go"
      refine ⟨upd_same, [(.inr "gap", .str " <= "), (.inr "most", .str " <= "), (.inr "least", .str " >= ")], rfl, by decide, ?_⟩
      have ed : upd (upd H2' pd (.dK [])) pd (.dK (mergeK [] [((.inr "gap" : Key), V.str " <= "), (.inr "most", .str " <= "), (.inr "least", .str " >= ")])) pd = some (.dK (mergeK [] [((.inr "gap" : Key), V.str " <= "), (.inr "most", .str " <= "), (.inr "least", .str " >= ")])) := upd_same
      have sd : Same H2' (upd (upd H2' pd (.dK [])) pd (.dK (mergeK [] [((.inr "gap" : Key), V.str " <= "), (.inr "most", .str " <= "), (.inr "least", .str " >= ")]))) := same_mut (same_new hpd) hpd
      generalize upd (upd H2' pd (.dK [])) pd (.dK (mergeK [] [((.inr "gap" : Key), V.str " <= "), (.inr "most", .str " <= "), (.inr "least", .str " >= ")])) = H3 at ed sd
      have hat3 := sd _ _ hat
      have eL3 := sd _ _ e2
      walk_at "go"
      refine rd_ixT hat3 (rv_0 r) ?_
      have dg : DGet H3 pd (.str r.wd) (some (.str (sgnOf r))) := by
        have := DGet.k (k := .inr r.wd) ed
        cases r <;> exact this
      refine ⟨pd, _, rfl, dg, ?_⟩
      walk_at "go"
      rw [rv_cut]
      intro p4 H4 s4 e4
      have eL4 := s4 _ _ eL3
      have hat4 := s4 _ _ hat3
      walk_at "go"
      have nm2 : r.nm.length ≤ 2 := by cases r <;> exact Nat.le_of_ble_eq_true rfl
      have l3 : (" - " : Str).length = 3 := by decide +kernel
      have sm := sum_len (m := 8) (ys := r.nm) fun y hy => menu_len y (ok.mn y (or.nm y hy))
      refine ⟨" - ", p4, r.nm, rfl, rfl, .inr (.inl (.inl e4)), by rw [l3]; omega, ?_⟩
      have er := row_of r
      have ltot : (Txt.join " - " r.nm).length + (sgnOf r).length + (numS r.num).length ≤ 45 := by
        rw [er, slen_app, slen_app] at rl45
        exact rl45
      walk_at "go"
      refine ⟨_, _, rfl, rfl, sz (by omega), ?_⟩
      walk_at "go"
      refine rd_ixT hat4 (rv_last r) ?_
      walk_at "go"
      refine ⟨log_small (by have := or.num; omega), ?_⟩
      walk_at "go"
      refine ⟨_, _, rfl, rfl, sz (by rw [slen_app]; show _ + _ + (numS r.num).length ≤ 1000; omega), ?_⟩
      walk_at "go"
      refine rd_appK eL4 (by rw [List.length_map, List.length_cons, List.length_map, List.length_take]; exact Nat.lt_of_le_of_lt (m := 10) (by omega) (by decide)) fun H5 k5 e5 => ?_
      refine ⟨_, _, rfl, same_kp (Same.trans s2 (Same.trans sd s4)) hL k5, ?_⟩
      rw [e5, List.take_add_one, hrr]
      show some (HO.lst (_ ++ [V.str (Txt.join " - " r.nm ++ sgnOf r ++ numS r.num)])) = _
      rw [← er, List.map_append, ← List.cons_append, List.map_append] <;> rfl
    · subst eσ
      rw [List.take_length] at e2
      walk_at "go"
      have l57 := head_len ok
      have s57 := sum_len (m := 57) (ys := headS N :: R.map rowS) fun y hy => by
        rcases List.mem_cons.mp hy with rfl | hy
        · exact l57
        · obtain ⟨r, hr', rfl⟩ := List.mem_map.mp hy
          exact Nat.le_trans (row_len ok.mn (ok.rl r hr')) (by decide)
      exact ⟨"\n", L, headS N :: R.map rowS, rfl, rfl, .inl (.inl (.inl e2)), by rw [ln]; rw [List.length_cons, List.length_map] at *; omega, q _ s2⟩
end
end K59
/-! K59ZipT -/
set_option Elab.async false
set_option linter.all false
set_option maxRecDepth 100000
set_option maxHeartbeats 4000000
namespace K59
open PySem PySem.W PySem.Calls PySem.Spec PyProof.Rows L2
/-! ### dict(zip(t, u)) of two tuples -/
section
variable {prog : Program} {w : World} {A : Around} {E : Value → Shared → Prop} {s : Shared}
theorem held_item {z TI TO T i1 i2 l1 l2 : Addr} {f : Bool} {oT : Obj} {k1 k2 : Nat} {xs ys : Array Value} {x y : Value} {Q : Value → Shared → Prop} (D : ZipApart z TI TO i1 i2 l1 l2) (hz : IsZipHeld s.heap z TI TO T f) (hT : s.heap.get? T = some oT)
    (hTI : IsPair s.heap TI (.ref i1) (.ref i2)) (h1 : s.heap.IsTupleIter i1 l1 k1) (h2 : s.heap.IsTupleIter i2 l2 k2) (hl1 : s.heap.IsTuple l1 xs) (hl2 : s.heap.IsTuple l2 ys) (hx : xs[k1]? = some x) (hy : ys[k2]? = some y)
    (hQ : ∀ h', IsZipHeld h' z TI TO T true → h'.IsTupleIter i1 l1 (k1 + 1) → h'.IsTupleIter i2 l2 (k2 + 1) → IsPair h' s.heap.objs.size x y → (∀ c o, c ≠ z → c ≠ i1 → c ≠ i2 → s.heap.get? c = some o → h'.get? c = some o) → Q (.ref s.heap.objs.size) { s with heap := h' }) :
    wpAny (model prog w) A (Builtin.«zip.__next__» ⟨[.ref z], []⟩) (fun fin s' => ∃ v, fin = .done (.ret v) ∧ Q v s') E s := by
  show wpAny _ _ (field (.ref z) 2 >>= _) _ _ _
  refine wpAny_bind (wpAny_field hz rfl (x := .bool false) rfl (show wpAny _ _ (field (.ref z) 3 >>= _) _ _ _ from wpAny_bind (wpAny_field hz rfl (x := .ref TI) rfl (wpAny_bind (wpAny_seqItems hTI rfl ?_)))))
  refine (show wpAny _ _ (Builtin.SmallTypes.ownedTupleIsFree (.ref z) >>= _) _ _ _ from wpAny_bind (wpAny_tupleHeld_zip hz hT fun ha hza hsa => ?_))
  simp only [Bool.false_eq_true, if_false]
  refine wpAny_bind ?_
  rw [← Array.forIn_toList]
  simp only [List.forIn_cons, List.forIn_nil]
  refine wpAny_bind (wpAny_bind (wpAny_holding (show wpAny _ _ (Builtin.SmallTypes.nextOf (.ref i1) >>= _) _ _ _ from wpAny_bind (RZ.nextOf_tuple_item (s := { s with heap := ha }) (h1.extBut hsa.extBut D.i1z) (hl1.extBut hsa.extBut D.l1z) hx fun hb hib hsb => wpAny_pure (wpAny_pure ?_)))))
  refine wpAny_bind (wpAny_bind (wpAny_holding (show wpAny _ _ (Builtin.SmallTypes.nextOf (.ref i2) >>= _) _ _ _ from wpAny_bind (RZ.nextOf_tuple_item (s := { s with heap := hb }) ((h2.extBut hsa.extBut D.i2z).extBut hsb.extBut D.i12.symm) ((hl2.extBut hsa.extBut D.l2z).extBut hsb.extBut D.l2i1) hy fun hc hic hsc => wpAny_pure (wpAny_pure (wpAny_pure ?_))))))
  refine (show wpAny _ _ (newTuple [x, y] >>= _) _ _ _ from wpAny_bind (wpAny_newTuple (wpAny_pure ⟨_, rfl, ?_⟩)))
  have hsz : hc.objs.size = s.heap.objs.size := by rw [hsc.1, hsb.1, hsa.1]
  have hp : IsPair (hc.push { cls := .type "tuple", data := .seq #[x, y] }) hc.objs.size x y := Heap.get?_push_size _ rfl
  show Q (.ref hc.objs.size) _
  rw [hsz] at hp ⊢
  exact hQ _ (Heap.get?_push_of_some _ (hsc.extBut _ _ D.i2z.symm (hsb.extBut _ _ D.i1z.symm hza))) ((hib.extBut hsc.extBut D.i12).at fun o e => Heap.get?_push_of_some _ e) (hic.at fun o e => Heap.get?_push_of_some _ e) hp
    fun c o c1 c2 c3 e => Heap.get?_push_of_some _ (hsc.extBut _ _ c3 (hsb.extBut _ _ c2 (hsa.extBut _ _ c1 e)))
theorem held_end {z TI TO T i1 i2 l1 l2 : Addr} {f : Bool} {oT : Obj} {k1 k2 : Nat} {xs ys : Array Value} {Q : Fin → Shared → Prop} (hh : A.handled = none) (D : ZipApart z TI TO i1 i2 l1 l2) (hz : IsZipHeld s.heap z TI TO T f) (hT : s.heap.get? T = some oT)
    (hTI : IsPair s.heap TI (.ref i1) (.ref i2)) (h1 : s.heap.IsTupleIter i1 l1 k1) (h2 : s.heap.IsTupleIter i2 l2 k2) (hl1 : s.heap.IsTuple l1 xs) (hl2 : s.heap.IsTuple l2 ys) (hend : xs[k1]? = none ∨ ys[k2]? = none)
    (hE : ∀ h' e, (∀ c o, c ≠ z → c ≠ i1 → c ≠ i2 → s.heap.get? c = some o → h'.get? c = some o) → (∃ o, h'.get? e = some o ∧ o.cls = .type "StopIteration") → E (.ref e) { s with heap := h' }) :
    wpAny (model prog w) A (Builtin.«zip.__next__» ⟨[.ref z], []⟩) Q E s := by
  show wpAny _ _ (field (.ref z) 2 >>= _) _ _ _
  refine wpAny_bind (wpAny_field hz rfl (x := .bool false) rfl (show wpAny _ _ (field (.ref z) 3 >>= _) _ _ _ from wpAny_bind (wpAny_field hz rfl (x := .ref TI) rfl (wpAny_bind (wpAny_seqItems hTI rfl ?_)))))
  refine (show wpAny _ _ (Builtin.SmallTypes.ownedTupleIsFree (.ref z) >>= _) _ _ _ from wpAny_bind (wpAny_tupleHeld_zip hz hT fun ha hza hsa => ?_))
  simp only [Bool.false_eq_true, if_false]
  refine wpAny_bind ?_
  rw [← Array.forIn_toList]
  simp only [List.forIn_cons, List.forIn_nil]
  cases hx : xs[k1]? with
  | none => exact wpAny_bind (wpAny_bind (wpAny_holding (show wpAny _ _ (Builtin.SmallTypes.nextOf (.ref i1) >>= _) _ _ _ from wpAny_bind (RZ.nextOf_tuple_end (s := { s with heap := ha }) hh (h1.extBut hsa.extBut D.i1z) (hl1.extBut hsa.extBut D.l1z) hx fun hb e hsb he =>
      hE hb e (fun c o c1 c2 _ x => hsb _ _ c2 (hsa.extBut _ _ c1 x)) he))))
  | some x =>
    have hy : ys[k2]? = none := hend.elim (fun h => by rw [hx] at h; cases h) id
    refine wpAny_bind (wpAny_bind (wpAny_holding (show wpAny _ _ (Builtin.SmallTypes.nextOf (.ref i1) >>= _) _ _ _ from wpAny_bind (RZ.nextOf_tuple_item (s := { s with heap := ha }) (h1.extBut hsa.extBut D.i1z) (hl1.extBut hsa.extBut D.l1z) hx fun hb hib hsb => wpAny_pure (wpAny_pure ?_)))))
    exact wpAny_bind (wpAny_bind (wpAny_holding (show wpAny _ _ (Builtin.SmallTypes.nextOf (.ref i2) >>= _) _ _ _ from wpAny_bind (RZ.nextOf_tuple_end (s := { s with heap := hb }) hh ((h2.extBut hsa.extBut D.i2z).extBut hsb.extBut D.i12.symm) ((hl2.extBut hsa.extBut D.l2z).extBut hsb.extBut D.l2i1) hy fun hc e hsc he =>
      hE hc e (fun c o c1 c2 c3 x => hsc _ _ c3 (hsb.extBut _ _ c2 (hsa.extBut _ _ c1 x))) he))))
theorem pyNext_held {z TI TO T i1 i2 l1 l2 : Addr} {f : Bool} {oT : Obj} {k1 k2 : Nat} {xs ys : Array Value} {x y : Value} {Q : Option Value → Shared → Prop} (D : ZipApart z TI TO i1 i2 l1 l2) (hz : IsZipHeld s.heap z TI TO T f) (hT : s.heap.get? T = some oT)
    (hTI : IsPair s.heap TI (.ref i1) (.ref i2)) (h1 : s.heap.IsTupleIter i1 l1 k1) (h2 : s.heap.IsTupleIter i2 l2 k2) (hl1 : s.heap.IsTuple l1 xs) (hl2 : s.heap.IsTuple l2 ys) (hx : xs[k1]? = some x) (hy : ys[k2]? = some y)
    (hQ : ∀ h', IsZipHeld h' z TI TO T true → h'.IsTupleIter i1 l1 (k1 + 1) → h'.IsTupleIter i2 l2 (k2 + 1) → IsPair h' s.heap.objs.size x y → (∀ c o, c ≠ z → c ≠ i1 → c ≠ i2 → s.heap.get? c = some o → h'.get? c = some o) → Q (some (.ref s.heap.objs.size)) { s with heap := h' }) :
    wpAny (model prog w) A (pyNext (.ref z)) Q E s := by
  have hTy : s.TypeIs (.ref z) "zip" := ⟨_, hz, rfl⟩
  unfold pyNext
  exact wpAny_bind (wpAny_attempt (wpAny_callSpecial?_slot (name := Str.ofString "__next__") hTy F.slot_zip_next (wpAny_call_entry F.slot_zip_next hTy F.entry_zip_next
    (held_item D hz hT hTI h1 h2 hl1 hl2 hx hy fun h' a1 a3 a4 a5 a7 => wpAny_pure (hQ h' a1 a3 a4 a5 a7)) (F.args_zip_next_1 _))))
theorem pyNext_heldEnd {z TI TO T i1 i2 l1 l2 : Addr} {f : Bool} {oT : Obj} {k1 k2 : Nat} {xs ys : Array Value} {Q : Option Value → Shared → Prop} (hh : A.handled = none) (D : ZipApart z TI TO i1 i2 l1 l2) (hz : IsZipHeld s.heap z TI TO T f) (hT : s.heap.get? T = some oT)
    (hTI : IsPair s.heap TI (.ref i1) (.ref i2)) (h1 : s.heap.IsTupleIter i1 l1 k1) (h2 : s.heap.IsTupleIter i2 l2 k2) (hl1 : s.heap.IsTuple l1 xs) (hl2 : s.heap.IsTuple l2 ys) (hend : xs[k1]? = none ∨ ys[k2]? = none)
    (hQ : ∀ h', (∀ c o, c ≠ z → c ≠ i1 → c ≠ i2 → s.heap.get? c = some o → h'.get? c = some o) → Q none { s with heap := h' }) : wpAny (model prog w) A (pyNext (.ref z)) Q E s := by
  have hTy : s.TypeIs (.ref z) "zip" := ⟨_, hz, rfl⟩
  unfold pyNext
  refine wpAny_bind (wpAny_attempt (wpAny_callSpecial?_slot (name := Str.ofString "__next__") hTy F.slot_zip_next (wpAny_call_entry F.slot_zip_next hTy F.entry_zip_next
    (held_end hh D hz hT hTI h1 h2 hl1 hl2 hend fun h' e hk ⟨o, ho, hc⟩ => wpAny_bind (wpAny_isInstance (T := "StopIteration") (b := true) ⟨o, ho, hc⟩ isSubtype_stop (wpAny_pure (hQ _ hk)))) (F.args_zip_next_1 _))))
end
section
variable {prog : Program} {w : World}
def ZipOk (z TI TO i1 i2 l1 l2 : Addr) (xs ys : Array Value) (h : Heap) : Prop := IsZip h z TI TO .none ∧ IsPair h TI (.ref i1) (.ref i2) ∧ (∃ a b, IsPair h TO a b) ∧ h.IsTupleIter i1 l1 0 ∧ h.IsTupleIter i2 l2 0 ∧ h.IsTuple l1 xs ∧ h.IsTuple l2 ys
def ZipSt (z TI TO i1 i2 l1 l2 d : Addr) (xs ys : Array Value) (i : Nat) (h : Heap) : Prop := IsPair h TI (.ref i1) (.ref i2) ∧ h.IsTupleIter i1 l1 i ∧ h.IsTupleIter i2 l2 i ∧ h.IsTuple l1 xs ∧ h.IsTuple l2 ys ∧
  ((IsZip h z TI TO .none ∧ ∃ a b, IsPair h TO a b) ∨ ∃ T f oT, IsZipHeld h z TI TO T f ∧ h.get? T = some oT ∧ T ≠ z ∧ T ≠ i1 ∧ T ≠ i2 ∧ T ≠ d)
theorem pairArgT (z TI TO i1 i2 l1 l2 : Addr) (D : ZipApart z TI TO i1 i2 l1 l2) (xs ys : Array Value) :
    PairArg prog w "zip" z [z, TI, TO, i1, i2, l1, l2] [z, TO, i1, i2] (min xs.size ys.size) (fun i k v => xs[i]? = some k ∧ ys[i]? = some v) (ZipOk z TI TO i1 i2 l1 l2 xs ys) where
  type := fun s ok => ⟨_, ok.1, rfl⟩
  notDict := by decide
  keep := fun h h' ⟨hz, hTI, ⟨a, b, hTO⟩, h1, h2, hl1, hl2⟩ hk => ⟨hk _ _ hz, hk _ _ hTI, ⟨a, b, hk _ _ hTO⟩, h1.at fun o e => hk _ o e, h2.at fun o e => hk _ o e, hl1.at fun o e => hk _ o e, hl2.at fun o e => hk _ o e⟩
  there := fun h ⟨hz, hTI, ⟨a, c, hTO⟩, ⟨o1, h1, _⟩, ⟨o2, h2, _⟩, ⟨o3, hl1, _⟩, ⟨o4, hl2, _⟩⟩ b hb => by
    simp only [List.mem_cons, List.not_mem_nil, or_false] at hb
    rcases hb with q | q | q | q | q | q | q <;> subst q <;> first | exact ⟨_, hz⟩ | exact ⟨_, hTI⟩ | exact ⟨_, hTO⟩ | exact ⟨_, h1⟩ | exact ⟨_, h2⟩ | exact ⟨_, hl1⟩ | exact ⟨_, hl2⟩
  sub := fun b hb => by
    simp only [List.mem_cons, List.not_mem_nil, or_false] at hb ⊢
    rcases hb with q | q | q | q <;> simp [q]
  noKeys := fun A s Q E hA ok h => getAttrOr_miss_zip ok.1 rfl rfl rfl zip_no_keys (by decide +kernel) hA h
  iter := fun A s d Q E hA ⟨hz, hTI, ⟨a, b, hTO⟩, h1, h2, hl1, hl2⟩ hd hdf h => by
    simp only [List.mem_cons, List.not_mem_nil, or_false, not_or] at hdf
    obtain ⟨dz, dTI, dTO, di1, di2, dl1, dl2⟩ := hdf
    refine wpAny_pyIter_zip hz (h z [z, TO, i1, i2] (ZipSt z TI TO i1 i2 l1 l2 d xs ys) s.heap s.toks ?_ ⟨hTI, h1, h2, hl1, hl2, .inl ⟨hz, a, b, hTO⟩⟩ (fun _ _ e => e) fun b hb => .inl hb)
    exact {
      off := fun hm => by
        simp only [List.mem_cons, List.not_mem_nil, or_false] at hm
        exact hm.elim dz fun hm => hm.elim dTO fun hm => hm.elim di1 di2
      frame := fun i ha hb ⟨hTI, h1, h2, hl1, hl2, hz⟩ hk => by
        refine ⟨hk _ _ (Ne.symm dTI) hTI, h1.at fun o e => hk _ o (Ne.symm di1) e, h2.at fun o e => hk _ o (Ne.symm di2) e, hl1.at fun o e => hk _ o (Ne.symm dl1) e, hl2.at fun o e => hk _ o (Ne.symm dl2) e, ?_⟩
        exact hz.elim (fun ⟨hz, a, b, hTO⟩ => .inl ⟨hk _ _ (Ne.symm dz) hz, a, b, hk _ _ (Ne.symm dTO) hTO⟩) fun ⟨T, f, oT, hz, hT, r1, r2, r3, r4⟩ => .inr ⟨T, f, oT, hk _ _ (Ne.symm dz) hz, hk _ _ r4 hT, r1, r2, r3, r4⟩
      item := fun i sa Qa Ea hi ⟨hTI, h1, h2, hl1, hl2, hz⟩ hds hQ => by
        have ex := Array.getElem?_eq_getElem (Nat.lt_of_lt_of_le hi (Nat.min_le_left ..))
        have ey := Array.getElem?_eq_getElem (Nat.lt_of_lt_of_le hi (Nat.min_le_right ..))
        have lt : ∀ {c o}, sa.heap.get? c = some o → sa.heap.objs.size ≠ c := fun e => Nat.ne_of_gt (Heap.lt_size e)
        have n1 : sa.heap.objs.size ≠ i1 := let ⟨_, e, _⟩ := h1; lt e
        have n2 : sa.heap.objs.size ≠ i2 := let ⟨_, e, _⟩ := h2; lt e
        rcases hz with ⟨hz, a, b, hTO⟩ | ⟨T, f, oT, hz, hT, r1, r2, r3, r4⟩
        · refine RZ.pyNext_zipT_item D hz hTI hTO h1 h2 hl1 hl2 ex ey fun h' a1 a2 a3 a4 a5 a6 hk => ?_
          exact hQ sa.heap.objs.size _ _ h' sa.toks ⟨ex, ey⟩ (.inl ⟨_, a5, rfl, _, rfl⟩) ⟨hk _ _ D.TIz D.TITO D.TIi1 D.TIi2 hTI, a3, a4, hl1.at fun o e => hk _ o D.l1z D.l1TO D.l1i1 D.l1i2 e, hl2.at fun o e => hk _ o D.l2z D.l2TO D.l2i1 D.l2i2 e,
            .inr ⟨sa.heap.objs.size, false, _, a1, a5, lt hz, n1, n2, Nat.ne_of_gt hds⟩⟩ fun c o hc e => hk c o (fun x => hc (by simp [x])) (fun x => hc (by simp [x])) (fun x => hc (by simp [x])) (fun x => hc (by simp [x])) e
        · refine pyNext_held D hz hT hTI h1 h2 hl1 hl2 ex ey fun h' a1 a3 a4 a5 hk => ?_
          exact hQ sa.heap.objs.size _ _ h' sa.toks ⟨ex, ey⟩ (.inl ⟨_, a5, rfl, _, rfl⟩) ⟨hk _ _ D.TIz D.TIi1 D.TIi2 hTI, a3, a4, hl1.at fun o e => hk _ o D.l1z D.l1i1 D.l1i2 e, hl2.at fun o e => hk _ o D.l2z D.l2i1 D.l2i2 e,
            .inr ⟨T, true, oT, a1, hk _ _ r1 r2 r3 hT, r1, r2, r3, r4⟩⟩ fun c o hc e => hk c o (fun x => hc (by simp [x])) (fun x => hc (by simp [x])) (fun x => hc (by simp [x])) e
      done := fun sa Qa Ea ⟨hTI, h1, h2, hl1, hl2, hz⟩ hQ => by
        have hend : xs[min xs.size ys.size]? = none ∨ ys[min xs.size ys.size]? = none := (Nat.le_total xs.size ys.size).elim (fun h => .inl (Array.getElem?_eq_none (Nat.le_of_eq (Nat.min_eq_left h).symm))) fun h => .inr (Array.getElem?_eq_none (Nat.le_of_eq (Nat.min_eq_right h).symm))
        rcases hz with ⟨hz, a, b, hTO⟩ | ⟨T, f, oT, hz, hT, r1, r2, r3, r4⟩
        · exact RZ.pyNext_zipT_end hA D hz hTI hTO h1 h2 hl1 hl2 hend fun h' hk => hQ h' sa.toks fun c o hc e => hk c o (fun x => hc (by simp [x])) (fun x => hc (by simp [x])) (fun x => hc (by simp [x])) (fun x => hc (by simp [x])) e
        · exact pyNext_heldEnd hA D hz hT hTI h1 h2 hl1 hl2 hend fun h' hk => hQ h' sa.toks fun c o hc e => hk c o (fun x => hc (by simp [x])) (fun x => hc (by simp [x])) (fun x => hc (by simp [x])) e }
end
section
variable {X : Cx} {K : Frag}
/-- dict(zip(a, b)): the keys of a, the values of b -/
def rDictZip (K : Frag) : R2 := fun x y H2 Q => ∃ (a b : Addr) (ks : List Key) (vs : List V), x = .ref a ∧ y = .ref b ∧ SqT K H2 a (ks.map kV) ∧ SqT K H2 b vs ∧ ∀ p H', Same H2 H' → H' p = some (.dK (mergeK [] (ks.zip vs))) → Q (.ref p) H'
def zipArgs (K : Frag) (Q : VK) : List V → Hp → Prop
  | [x, y], H => rDictZip K x y H Q
  | _, _ => False
theorem zip_pairs : ∀ {ks : List Key} {us : List Value} {vs : List V} {ws : List Value}, Vals (ks.map kV) us → Vals vs ws → KV (ks.zip vs) (ks.zip ws)
  | [], _, _, _, _, _ => .nil
  | k :: ks, _, [], _, _, r => by
    cases r
    exact .nil
  | k :: ks, _, v :: vs, _, h, .cons r t => by
    cases h with
    | cons h1 h2 => exact .cons ⟨rfl, r⟩ (zip_pairs h2 t)
theorem pe_dictZip {ea eb : Expr} {ta tb : TE} {p p2 pos pos2 : Pos} (hK : X.K = K) (hcalm : X.calm = true) (hg : Gl X "dict") (hm : X.mg "dict" = none) (hg2 : Gl X "zip") (hm2 : X.mg "zip" = none) (ha : PE X ea ta) (hb : PE X eb tb)
    (hs : starEach [Expr.Call (.Name "zip" p2) [ea, eb] [] pos2] X.env = (false, eval (.Call (.Name "zip" p2) [ea, eb] [] pos2) X.env) :: starEach [] X.env := by rfl)
    (hs2 : starEach [ea, eb] X.env = (false, eval ea X.env) :: starEach [eb] X.env := by rfl) (hpl : (backTo pos2 (starEach [eb] X.env)).any (·.1) = false := by rfl) (hs3 : starEach [eb] X.env = (false, eval eb X.env) :: starEach [] X.env := by rfl) :
    PE X (.Call (.Name "dict" p) [.Call (.Name "zip" p2) [ea, eb] [] pos2] [] pos) (tOp (rDictZip K) ta tb) := by
  subst hK
  refine ⟨fun pins s σ H Q I h => ?_⟩
  refine wpAny_Call_Name_kw (ld_blt I hg hm PyProof.Rows.boot_dict (PyProof.Rows.callWith_type1 ?_ hs rfl))
  rw [hs]
  show wpAny _ _ (spliced ((false, eval (.Call (.Name "zip" p2) [ea, eb] [] pos2) X.env) :: backTo pos (starEach [] X.env))) _ _ s
  refine Calls.spliced_cons ?_
  have hA : PA X [ea, eb] (tCons ta (tCons tb tNil)) := pa_cons ha (pa_cons hb pa_nil hs3) hs2
  refine wpAny_Call_Name_kw (ld_blt I hg2 hm2 PyProof.Rows.boot_zip (PyProof.Rows.callWith_type1 (thn (hA.run pos2 pins s σ H (zipArgs X.K Q) I h) fun us s1 ⟨xs, H1, I1, r1, q1⟩ => ?_) hs2 hpl))
  match xs, r1, q1 with
  | [x, y], r1, q1 =>
    obtain ⟨a, b, ks, vs, rfl, rfl, ha', hb', q⟩ := q1
    obtain ⟨u1, u2, rfl, ru1, ru2⟩ := L2.vals2 r1
    cases ru1
    cases ru2
    obtain ⟨its, rv, p1, hz1⟩ := I1.tuple ha'
    obtain ⟨its2, rv2, p2', hz2⟩ := I1.tuple hb'
    have la : a < s1.heap.objs.size := p1.lt
    have lb : b < s1.heap.objs.size := p2'.lt
    refine RZ.call_zipT p1 p2' fun h' hz hTI hTO h1 h2 hsz hk => Calls.spliced_nil ?_
    have I2 : Inv X pins σ H1 { s1 with heap := h' } := I1.kept (t' := s1.toks) hk
    have D := PySem.W.ktu_apart s1.heap.objs.size a b la lb
    have kv := zip_pairs rv rv2
    have hlen : (ks.zip its2).length = min its.toArray.size its2.toArray.size := by
      have := rv.length
      rw [List.length_map] at this
      rw [List.length_zip, List.size_toArray, List.size_toArray, this]
    have hle : min its.toArray.size its2.toArray.size ≤ sizeLine := by
      have h3 := rv.length
      rw [List.size_toArray, ← h3]
      exact Nat.le_trans (Nat.min_le_left ..) hz1
    refine PySem.call_dict_pairs (knd := mixKind X.prog X.w) (kvs := ks.zip its2) (pairArgT _ _ _ _ _ a b D its.toArray its2.toArray) (I.ok.hd hcalm) ⟨hz, hTI, ⟨_, _, hTO⟩, h1, h2, (show s1.heap.IsTuple a its.toArray from p1).at fun o e => hk _ o e, (show s1.heap.IsTuple b its2.toArray from p2').at fun o e => hk _ o e⟩ ⟨hlen, fun i k v ⟨e1, e2⟩ => ?_⟩ hle fun h'' tk hd' hk2 => ?_
    · have e1 : its[i]? = some k := by simpa using e1
      have e2 : its2[i]? = some v := by simpa using e2
      obtain ⟨hi, ei⟩ := List.getElem?_eq_some_iff.mp e1
      have hlk : ks.length = its.length := by
        have := rv.length
        rwa [List.length_map] at this
      have hik : i < ks.length := by omega
      obtain ⟨u, eu, ru⟩ := rv.get (i := i) (x := kV ks[i]) (by rw [List.getElem?_map, List.getElem?_eq_getElem hik] <;> rfl)
      rw [e1] at eu
      cases eu
      refine ⟨ks[i], ?_, kV_is ru⟩
      rw [List.getElem?_zip_eq_some]
      exact ⟨List.getElem?_eq_getElem hik, e2⟩
    · have hn : H1 h'.objs.size = none := I2.hok.fresh (Nat.le_refl _)
      have big : (h'.objs.size == sysModules) = false := beq_eq_false_iff_ne.mpr (Nat.ne_of_gt I2.big)
      have hlm : (mergeK [] (ks.zip vs)).length ≤ sizeLine := by
        refine Nat.le_trans (length_mergeK _ []) ?_
        rw [List.length_nil, Nat.zero_add, kv.length, hlen]
        exact hle
      have keep : ∀ b' o, b' ∉ [s1.heap.objs.size + 4, s1.heap.objs.size + 3, s1.heap.objs.size, s1.heap.objs.size + 1] → h'.get? b' = some o → h''.get? b' = some o := hk2
      have kp : ∀ b' o, s1.heap.get? b' = some o → h''.get? b' = some o := fun b' o e => by
        refine keep b' o ?_ (hk _ _ e)
        have := Heap.lt_size e
        simp only [List.mem_cons, List.not_mem_nil, or_false, not_or]
        exact ⟨Nat.ne_of_lt (Nat.lt_add_right _ this), Nat.ne_of_lt (Nat.lt_add_right _ this), Nat.ne_of_lt this, Nat.ne_of_lt (Nat.lt_add_right _ this)⟩
      have I3 : Inv X pins σ (upd H1 h'.objs.size (.dK (mergeK [] (ks.zip vs)))) { s1 with heap := h'', toks := tk } :=
        I1.laid (t' := tk) kp (by rw [hsz]; omega) (show ObjOk X.prog X.w _ _ _ (.dK (mergeK [] (ks.zip vs))) from ⟨hlm, big, merged [] (ks.zip its2), KV.merge kv .nil, hd'⟩)
      exact ⟨.ref h'.objs.size, _, I3, rfl, q _ _ (same_new hn) upd_same⟩
end
end K59
/-! K59L5 -/
set_option Elab.async false
set_option linter.all false
set_option maxRecDepth 100000
set_option maxHeartbeats 4000000
namespace K59
open PySem PySem.W PySem.Calls PySem.Spec PyProof.Rows L2
local macro_rules | `(tactic| walk_at "hp") => `(tactic| first
  | assumption
  | exact upd_same
  | (refine same_new (by assumption) _ _ ?_; walk_at "hp")
  | (refine (by assumption : Same _ _) _ _ ?_; walk_at "hp")
  | (refine FK.tk (by assumption) (by assumption) _ _ ?_; walk_at "hp"))
local macro_rules | `(tactic| walk_at "sq") => `(tactic| first
  | assumption
  | exact FrzT.sq (by assumption)
  | (refine sqt_new (by assumption) ?_; walk_at "sq")
  | (refine sqt_same ?_ (by assumption); walk_at "sq"))
local macro_rules | `(tactic| walk_at "fz") => `(tactic| first
  | assumption
  | (refine frz_new (by assumption) ?_; walk_at "fz")
  | (refine FrzT.same ?_ (by assumption); walk_at "fz"))
local macro_rules | `(tactic| walk_at "ic") => `(tactic| first
  | ((with_reducible show (0 : Int) < _); decide)
  | exact Or.inl ⟨by decide, by decide⟩
  | exact Or.inr ⟨by decide, by decide⟩
  | exact (show (0 : Int) < _ ∧ _ < (1073741824 : Int) from ⟨by decide, by decide⟩)
  | exact (show (0 : Int) ≤ _ ∧ _ ≤ (1000000 : Int) ∧ Int.natAbs _ < 2 ^ 64 from ⟨by decide, by decide, by decide⟩)
  | exact (⟨by decide, by decide, by decide⟩ : _ ∧ _ ∧ _))
local macro_rules | `(tactic| walk_at "st") => `(tactic| first
  | with_reducible refine rd_var rfl ?_
  | with_reducible refine rd_c ?_
  | with_reducible refine rd_cons ?_
  | with_reducible refine rd_nil ?_
  | with_reducible refine rd_op ?_
  | with_reducible refine rd_cb ?_
  | with_reducible refine rd_call ?_
  | with_reducible refine rd_test ?_
  | with_reducible refine rd_B ?_
  | with_reducible refine rd_bl ?_
  | with_reducible refine rd_un ?_
  | with_reducible refine rd_and ?_
  | with_reducible refine rd_or ?_
  | with_reducible refine rd_not ?_
  | with_reducible refine rd_andV ?_
  | with_reducible refine rd_orV ?_
  | with_reducible refine rd_notV ?_
  | with_reducible refine rd_if ?_
  | with_reducible refine rd_chain ?_
  | with_reducible refine rd_I0 ?_
  | with_reducible refine rd_U ?_
  | with_reducible refine rd_eqI ?_
  | with_reducible refine rd_neI ?_
  | with_reducible refine rd_eqS ?_
  | with_reducible refine rd_neS ?_
  | with_reducible refine rd_nn ?_
  | with_reducible refine rd_asg ?_
  | with_reducible refine rd_gname ?_
  | with_reducible refine rd_seq ?_
  | with_reducible refine rd_ifS ?_
  | with_reducible refine rd_ret ?_
  | with_reducible refine rd_next ?_
  | with_reducible refine rd_cont ?_
  | with_reducible refine rd_drop ?_
  | with_reducible refine rd_par ?_
  | with_reducible refine rd_vs2 ?_
  | with_reducible refine rd_gsub ?_
  | with_reducible refine rd_gcons ?_
  | with_reducible refine rd_gnil ?_
  | with_reducible refine rd_tup ?_
  | with_reducible refine rd_lst ?_
  | with_reducible refine rd_sl ?_
  | with_reducible refine rd_part ?_
  | with_reducible refine rd_nopart ?_
  | with_reducible refine rd_i1 ?_
  | with_reducible refine rd_bm ?_
  | with_reducible refine rd_yes ?_
  | with_reducible refine rd_lcT ?_
  | with_reducible refine rd_lcL ?_
  | with_reducible refine rd_lcR1 ?_
  | with_reducible refine rd_lcS ?_
  | with_reducible refine rd_forT ?_
  | with_reducible refine rd_forL ?_
  | with_reducible refine rd_forR1 ?_
  | with_reducible refine rd_atS ?_
  | with_reducible refine rd_forEn ?_
  | with_reducible refine rd_dget ?_
  | with_reducible refine rd_din ?_
  | with_reducible refine rd_dget2 ?_
  | with_reducible refine rd_dput ?_
  | with_reducible refine rd_disp ?_
  | with_reducible refine rd_pcons ?_
  | with_reducible refine rd_pnil ?_
  | with_reducible refine rd_dcL ?_
  | with_reducible refine rd_lcEn ?_
  | with_reducible refine rd_yS ?_
  | with_reducible refine rd_m1 ?_
  | with_reducible refine rd_meth ?_
  | with_reducible refine rd_fld ?_
  | with_reducible refine rd_sfld ?_
  | with_reducible refine rd_make ?_
  | with_reducible refine rd_fmt ?_
  | with_reducible refine rd_js ?_
  | with_reducible refine rd_js0 ?_
  | with_reducible refine iteT ?_
  | with_reducible refine iteF ?_
  | ((with_reducible refine isi_int (d := ?d1) (N := ?n1) ?h1 ?_); (case h1 => assumption))
  | ((with_reducible refine isi_bool (d := ?d1) (N := ?n1) ?h1 ?_); (case h1 => assumption))
  | ((with_reducible refine isi_str (d := ?d1) (N := ?n1) ?h1 ?_); (case h1 => assumption))
  | ((with_reducible refine isi_tuple (d := ?d1) (N := ?n1) ?h1 ?_); (case h1 => assumption))
  | with_reducible refine isi_str (N := fun _ => True) (Da.str _) ?_
  | with_reducible refine isi_int (N := fun _ => True) (Da.int _) ?_
  | with_reducible refine isi_bool (N := fun _ => True) (Da.int _) ?_
  | with_reducible refine isi_str (N := fun _ => True) (Da.int _) ?_
  | ((with_reducible show (wipe _ _ = wipe _ _) ∧ _); refine ⟨rfl, ?_⟩)
  | ((with_reducible show Ends.nx _ _ _); dsimp only)
  | ((with_reducible show Ends.rt _ _ _); dsimp only)
  | ((with_reducible show Ends.ct _ _ _); dsimp only)
  | ((with_reducible refine rd_ixT (xs := ?x1) (v := ?v1) ?h1 ?e1 ?_); (case h1 => walk_at "hp"); (case e1 => rfl))
  | ((with_reducible refine rd_ixL (xs := ?x1) (v := ?v1) ?h1 ?e1 ?_); (case h1 => walk_at "hp"); (case e1 => rfl))
  | ((with_reducible refine rd_lenT (xs := ?x1) ?h1 ?_); (case h1 => walk_at "hp"))
  | ((with_reducible refine rd_lenL (xs := ?x1) ?h1 ?_); (case h1 => walk_at "hp"))
  | ((with_reducible refine rd_tupOf (xs := ?x1) ?h1 ?_); (case h1 => walk_at "hp"))
  | ((with_reducible refine rd_all (bs := ?x1) ?h1 ?_); (case h1 => walk_at "hp"))
  | ((with_reducible refine rd_atT (xs := ?x1) ?h1 ?_); (case h1 => walk_at "hp"))
  | ((with_reducible refine rd_atL (xs := ?x1) ?h1 ?_); (case h1 => walk_at "hp"))
  | ((with_reducible refine rd_gtup (xs := ?x1) ?h1 ?e1 ?_); (case h1 => walk_at "hp"); (case e1 => rfl))
  | ((with_reducible refine rd_atEn (xs := ?x1) ?h1 ?_); (case h1 => walk_at "hp"))
  | ((with_reducible refine rd_slT (xs := ?x1) ?h1 ?_); (case h1 => walk_at "hp"))
  | ((with_reducible refine rd_slL (xs := ?x1) ?h1 ?_); (case h1 => walk_at "hp"))
  | ((with_reducible refine rd_inN (N := ?x1) ?h1 ?_); (case h1 => walk_at "hp"))
  | ((with_reducible refine rd_inL (N := ?x1) ?h1 ?_); (case h1 => walk_at "hp"))
  | ((with_reducible refine rd_notInN (N := ?x1) ?h1 ?_); (case h1 => walk_at "hp"))
  | ((with_reducible refine rd_notInL (N := ?x1) ?h1 ?_); (case h1 => walk_at "hp"))
  | with_reducible refine rd_tm ?_
  | ((with_reducible refine rd_isF (xs := ?x1) ?h1 ?_); (case h1 => walk_at "fz"))
  | ((with_reducible refine rd_lenTq (xs := ?x1) ?h1 ?_); (case h1 => walk_at "sq"))
  | ((with_reducible refine rd_atTq (xs := ?x1) ?h1 ?_); (case h1 => walk_at "sq"))
  | ((with_reducible refine rd_atEnq (xs := ?x1) ?h1 ?_); (case h1 => walk_at "sq"))
  | ((with_reducible refine rd_slTq (xs := ?x1) ?h1 ?_); (case h1 => walk_at "sq"))
  | ((with_reducible refine rd_inNq (N := ?x1) ?h1 ?_); (case h1 => walk_at "sq"))
  | ((with_reducible refine rd_setL (xs := ?x1) (j := ?j1) ?h1 ?e1 ?_); (case h1 => walk_at "hp"); (case e1 => rfl))
  | with_reducible refine rd_int1 ?_
  | with_reducible refine rd_x1 ?_
  | with_reducible refine rd_x2 ?_
  | ((with_reducible refine rd_tyL (xs := ?x1) ?h1 ?_); (case h1 => walk_at "hp"))
  | ((with_reducible refine rd_ixsL (xs := ?x1) (v := ?v1) ?h1 ?e1 ?_); (case h1 => walk_at "hp"); (case e1 => rfl))
  | ((with_reducible refine rd_ixsT (xs := ?x1) (v := ?v1) ?h1 ?e1 ?_); (case h1 => walk_at "hp"); (case e1 => rfl))
  | ((with_reducible refine rd_I ?c1 ?_); (case c1 => walk_at "ic"))
  | ((with_reducible refine if_t ?hb1 ?_); (case hb1 => rfl))
  | ((with_reducible refine if_f ?hb1 ?_); (case hb1 => rfl)))
local macro_rules | `(tactic| walk_at "go") => `(tactic| repeat (first | walk_at "st" | dsimp only))
section
variable {P : Program} {w : World} {K : Frag} {mg : Str → Option Value} {base : Heap}

abbrev N_L_keeps : List Str := ["_law_shape_here", "_law_fill", "_law_bond_here", "_law_known", "_law_high", "_law_low", "_law_bound"]
theorem sc_L_keeps : FnScope N_L_keeps ["_law_shape_here", "_law_fill", "_law_bond_here"] (defScope s_L_keeps) := ⟨rfl, rfl, rfl, by decide +kernel, rfl, by decide +kernel, by decide +kernel⟩
theorem merge_nd : ∀ (more kvs : List (Key × V)), ((kvs ++ more).map (·.1)).Nodup → mergeK kvs more = kvs ++ more
  | [], kvs, _ => (List.append_nil kvs).symm
  | p :: more, kvs, h => by
    have hn : valV kvs p.1 = none := by
      cases e : valV kvs p.1 with
      | none => rfl
      | some v =>
        exfalso
        have h2 := valV_any p.1 kvs
        rw [e] at h2
        obtain ⟨x, hx, hk⟩ := List.any_eq_true.mp h2
        have hk := of_decide_eq_true hk
        rw [List.map_append, List.map_cons] at h
        have h3 := (List.nodup_append.mp h).2.2 x.1 (List.mem_map.mpr ⟨x, hx, rfl⟩) p.1 List.mem_cons_self
        exact h3 hk
    show mergeK (putK kvs p.1 p.2) more = _
    rw [putK_new p.2 hn, merge_nd more (kvs ++ [(p.1, p.2)]) (by rw [List.append_assoc]; exact h), List.append_assoc] <;> rfl
def namesK (N : List Str) : List Key := (eS :: N).map Sum.inr
theorem namesK_nd {N : List Str} (nd : N.Nodup) (ne : ∀ x ∈ N, x ≠ eS) : (namesK N).Nodup := by
  unfold namesK List.Nodup
  rw [List.pairwise_map]
  refine List.Pairwise.imp (R := fun a b => a ≠ b) (fun {a b} h z => h (Sum.inr.inj z)) ?_
  exact List.pairwise_cons.mpr ⟨fun x hx z => ne x hx z.symm, nd⟩
theorem zip_keys {ks : List Key} : ∀ {vs : List V}, ks.length = vs.length → (ks.zip vs).map (·.1) = ks := fun {vs} h => List.map_fst_zip (by omega)
theorem val_zip {x : Str} : ∀ {N : List Str} {vs : List V}, x ∈ N → N.length = vs.length → valV ((N.map (Sum.inr : Str → Key)).zip vs) (.inr x) = vs[ixOf x N]?
  | [], _, h, _ => by cases h
  | y :: N, [], _, h => by cases h
  | y :: N, v :: vs, hm, hl => by
    show valV ((Sum.inr y, v) :: (N.map (Sum.inr : Str → Key)).zip vs) (.inr x) = _
    unfold ixOf
    by_cases e : y = x
    · rw [valV_pos (by rw [e]), if_pos e] <;> rfl
    · rw [valV_neg (fun z => e (Sum.inr.inj z)), if_neg e, List.getElem?_cons_succ]
      exact val_zip ((List.mem_cons.mp hm).elim (fun z => absurd z.symm e) id) (by simpa using hl)
theorem known_val {N : List Str} {ns : List Int} {x : Str} (nd : N.Nodup) (ne : ∀ x ∈ N, x ≠ eS) (hl : ns.length = N.length) (hx : x ∈ eS :: N) : valV (mergeK [] ((namesK N).zip ([V.int 0] ++ ns.map V.int))) (.inr x) = some (.int (cell ns (posN N x))) := by
  have l1 : (namesK N).length = ([V.int 0] ++ ns.map V.int).length := by simp [namesK, hl]
  rw [merge_nd _ _ (by rw [List.nil_append, zip_keys l1]; exact namesK_nd nd ne), List.nil_append]
  have e : ([V.int 0] ++ ns.map V.int) = (0 :: ns).map V.int := rfl
  rw [namesK, e, val_zip hx (by simp [hl]), List.getElem?_map, cell]
  have ei : ixOf x (eS :: N) = posN N x := by
    unfold ixOf posN
    by_cases h : eS = x
    · rw [if_pos h, if_pos h.symm]
    · rw [if_neg h, if_neg fun z => h z.symm, Nat.add_comm]
  rw [ei]
  have h2 : posN N x < (0 :: ns).length := by
    rw [List.length_cons, hl]
    exact posN_lt hx
  rw [List.getElem?_eq_getElem h2] <;> rfl
theorem rd_dictZip {H : Hp} {Q : VK} {a b : Addr} {ks : List Key} {vs : List V} (h1 : H a = some (.tup (ks.map kV))) (h2 : H b = some (.tup vs)) (q : ∀ p H', Same H H' → H' p = some (.dK (mergeK [] (ks.zip vs))) → Q (.ref p) H') : rDictZip K (.ref a) (.ref b) H Q := ⟨a, b, ks, vs, rfl, rfl, .inl (.inl h1), .inl (.inl h2), q⟩
def sp_Lkeeps : Sp := fun vs H Q _ => ∃ p f a, ∃ N : List Str, ∃ R r, ∃ ns : List Int, vs = [.ref p, .ref f, .ref a] ∧ ShapeAt H p N R ∧ N.Nodup ∧ (∀ x ∈ N, x ≠ eS) ∧ N.length ≤ 5 ∧ H f = some (.tup (ns.map V.int)) ∧ ns.length = N.length ∧ H a = some (.tup (rv r)) ∧ RlOk N r ∧ ∀ H', Same H H' → Q (.bl (keepsB N ns r)) H'
theorem c_L_keeps (S : Sys K mg) : C8.Cal P w K mg base 2 "_law_keeps" sp_Lkeeps [] := by
  refine calD S.f_D_L_keeps S.g_L_keeps sc_L_keeps (fun _ _ _ _ _ _ us hl => match us, hl with | [_, _, _], _ => rfl) ?_ ?_
  · rintro vs H Q E ⟨_, _, _, _, _, _, _, rfl, _⟩
    rfl
  · rintro cdv A outer s H vs Q E hr ⟨p, f, a, N, R, r, ns, rfl, ⟨pf, pr, as, h1, h2, h3, h4⟩, nd, ne, n5, hf, hn, ha, ok, q⟩
    refine ⟨_, pss_cons (ps_set (i := 3) sc_L_keeps.nd rfl (Or.inl rfl) (pe_dictZip (K := K) rfl rfl (by rfl) S.n_dict (by rfl) S.n_zip (pe_op (op_catAC (K := K) rfl) (pe_tup (pa_cons pe_str pa_nil)) (pe_ix (ix_tupC (K := K) rfl) (pv 0) pe_int (fun _ _ => rfl))) (pe_op (op_catAC (K := K) rfl) (pe_tup (pa_cons pe_int pa_nil)) (pv 1))))
      (pss_cons (ps_asg (C8.pe_c (c_L_ends (K := K) S) hr (by decide) rfl (pa_cons (pv 2) pa_nil)) (pg_tupC (K := K) rfl rfl (pgs_cons (pg_name (i := 4) sc_L_keeps.nd rfl (Or.inl rfl)) (pgs_cons (pg_name (i := 5) sc_L_keeps.nd rfl (Or.inl rfl)) (pgs_cons (pg_name (i := 6) sc_L_keeps.nd rfl (Or.inl rfl)) pgs_nil)))))
      (pss_one (ps_ret (pe_cmpR op_le (pe_op op_sub (pe_dget (hu_of hr) (pv 3) (pv 4) (fun _ _ => rfl)) (pe_dget (hu_of hr) (pv 3) (pv 5) (fun _ _ => rfl))) (pv 6) (nomark _))))), ?_⟩
    walk_at "go"
    refine ⟨szc rfl, fun p1 hp1 => ?_⟩
    have s1 := same_new (o := .tup [.str eS]) hp1
    have e1 : upd H p1 (.tup [.str eS]) p1 = some (.tup [.str eS]) := upd_same
    have g1 : upd H p1 (.tup [.str eS]) p = some (.tup [.ref pf, .ref pr]) := s1 _ _ h1
    have e1' : upd H p1 (.tup [.str (Str.ofString "")]) p1 = some (.tup [.str eS]) := upd_same
    have s1' : Same H (upd H p1 (.tup [.str (Str.ofString "")])) := same_new hp1
    generalize upd H p1 (.tup [.str (Str.ofString "")]) = H1 at e1' s1'
    have g2 := s1' _ _ h1
    have g3 := s1' _ _ h2
    walk_at "go"
    refine rd_catT e1' g3 (sz (by simp; omega)) fun p2 H2 s2 e2 => ?_
    have s02 := Same.trans s1' s2
    walk_at "go"
    refine ⟨szc rfl, fun p3 hp3 => ?_⟩
    have s3 := same_new (o := .tup [.int 0]) hp3
    have e3 : upd H2 p3 (.tup [.int 0]) p3 = some (.tup [.int 0]) := upd_same
    have e23 := s3 _ _ e2
    have s03 := Same.trans s02 s3
    generalize upd H2 p3 (.tup [.int 0]) = H3 at s3 e3 e23 s03
    walk_at "go"
    refine rd_catT e3 (s03 _ _ hf) (sz (by simp; omega)) fun p4 H4 s4 e4 => ?_
    have e24 := s4 _ _ e23
    have ek : [V.str eS] ++ N.map V.str = (namesK N).map kV := by
      show _ = ((eS :: N).map Sum.inr).map kV
      rw [List.map_map] <;> rfl
    rw [ek] at e24
    refine rd_dictZip e24 e4 fun pd H5 s5 e5 => ?_
    have s05 := Same.trans s03 (Same.trans s4 s5)
    walk_at "go"
    refine ⟨a, r, rfl, s05 _ _ ha, fun H6 p6 s6 e6 => ?_⟩
    unfold endsL at e6
    have e56 := s6 _ _ e5
    walk_at "go"
    have dg : ∀ {x : Str}, x ∈ eS :: N → DGet H6 pd (.str x) (some (.int (cell ns (posN N x)))) := fun {x} hx => by
      have := DGet.k (k := .inr x) e56
      rw [known_val nd ne hn hx] at this
      exact this
    refine ⟨pd, _, rfl, dg ok.hi, ?_⟩
    walk_at "go"
    refine ⟨pd, _, rfl, dg ok.lo, ?_⟩
    walk_at "go"
    exact q _ (Same.trans s05 s6)
end
end K59
/-! K59L6 -/
set_option Elab.async false
set_option linter.all false
set_option maxRecDepth 100000
set_option maxHeartbeats 4000000
namespace K59
open PySem PySem.W PySem.Calls PySem.Spec PyProof.Rows L2
local macro_rules | `(tactic| walk_at "hp") => `(tactic| first
  | assumption
  | exact upd_same
  | (refine same_new (by assumption) _ _ ?_; walk_at "hp")
  | (refine (by assumption : Same _ _) _ _ ?_; walk_at "hp")
  | (refine FK.tk (by assumption) (by assumption) _ _ ?_; walk_at "hp"))
local macro_rules | `(tactic| walk_at "sq") => `(tactic| first
  | assumption
  | exact FrzT.sq (by assumption)
  | (refine sqt_new (by assumption) ?_; walk_at "sq")
  | (refine sqt_same ?_ (by assumption); walk_at "sq"))
local macro_rules | `(tactic| walk_at "fz") => `(tactic| first
  | assumption
  | (refine frz_new (by assumption) ?_; walk_at "fz")
  | (refine FrzT.same ?_ (by assumption); walk_at "fz"))
local macro_rules | `(tactic| walk_at "ic") => `(tactic| first
  | ((with_reducible show (0 : Int) < _); decide)
  | exact Or.inl ⟨by decide, by decide⟩
  | exact Or.inr ⟨by decide, by decide⟩
  | exact (show (0 : Int) < _ ∧ _ < (1073741824 : Int) from ⟨by decide, by decide⟩)
  | exact (show (0 : Int) ≤ _ ∧ _ ≤ (1000000 : Int) ∧ Int.natAbs _ < 2 ^ 64 from ⟨by decide, by decide, by decide⟩)
  | exact (⟨by decide, by decide, by decide⟩ : _ ∧ _ ∧ _))
local macro_rules | `(tactic| walk_at "st") => `(tactic| first
  | with_reducible refine rd_var rfl ?_
  | with_reducible refine rd_c ?_
  | with_reducible refine rd_cons ?_
  | with_reducible refine rd_nil ?_
  | with_reducible refine rd_op ?_
  | with_reducible refine rd_cb ?_
  | with_reducible refine rd_call ?_
  | with_reducible refine rd_test ?_
  | with_reducible refine rd_B ?_
  | with_reducible refine rd_bl ?_
  | with_reducible refine rd_un ?_
  | with_reducible refine rd_and ?_
  | with_reducible refine rd_or ?_
  | with_reducible refine rd_not ?_
  | with_reducible refine rd_andV ?_
  | with_reducible refine rd_orV ?_
  | with_reducible refine rd_notV ?_
  | with_reducible refine rd_if ?_
  | with_reducible refine rd_chain ?_
  | with_reducible refine rd_I0 ?_
  | with_reducible refine rd_U ?_
  | with_reducible refine rd_eqI ?_
  | with_reducible refine rd_neI ?_
  | with_reducible refine rd_eqS ?_
  | with_reducible refine rd_neS ?_
  | with_reducible refine rd_nn ?_
  | with_reducible refine rd_asg ?_
  | with_reducible refine rd_gname ?_
  | with_reducible refine rd_seq ?_
  | with_reducible refine rd_ifS ?_
  | with_reducible refine rd_ret ?_
  | with_reducible refine rd_next ?_
  | with_reducible refine rd_cont ?_
  | with_reducible refine rd_drop ?_
  | with_reducible refine rd_par ?_
  | with_reducible refine rd_vs2 ?_
  | with_reducible refine rd_gsub ?_
  | with_reducible refine rd_gcons ?_
  | with_reducible refine rd_gnil ?_
  | with_reducible refine rd_tup ?_
  | with_reducible refine rd_lst ?_
  | with_reducible refine rd_sl ?_
  | with_reducible refine rd_part ?_
  | with_reducible refine rd_nopart ?_
  | with_reducible refine rd_i1 ?_
  | with_reducible refine rd_bm ?_
  | with_reducible refine rd_yes ?_
  | with_reducible refine rd_lcT ?_
  | with_reducible refine rd_lcL ?_
  | with_reducible refine rd_lcR1 ?_
  | with_reducible refine rd_lcS ?_
  | with_reducible refine rd_forT ?_
  | with_reducible refine rd_forL ?_
  | with_reducible refine rd_forR1 ?_
  | with_reducible refine rd_atS ?_
  | with_reducible refine rd_forEn ?_
  | with_reducible refine rd_dget ?_
  | with_reducible refine rd_din ?_
  | with_reducible refine rd_dget2 ?_
  | with_reducible refine rd_dput ?_
  | with_reducible refine rd_disp ?_
  | with_reducible refine rd_pcons ?_
  | with_reducible refine rd_pnil ?_
  | with_reducible refine rd_dcL ?_
  | with_reducible refine rd_lcEn ?_
  | with_reducible refine rd_yS ?_
  | with_reducible refine rd_m1 ?_
  | with_reducible refine rd_meth ?_
  | with_reducible refine rd_fld ?_
  | with_reducible refine rd_sfld ?_
  | with_reducible refine rd_make ?_
  | with_reducible refine rd_fmt ?_
  | with_reducible refine rd_js ?_
  | with_reducible refine rd_js0 ?_
  | with_reducible refine iteT ?_
  | with_reducible refine iteF ?_
  | ((with_reducible refine isi_int (d := ?d1) (N := ?n1) ?h1 ?_); (case h1 => assumption))
  | ((with_reducible refine isi_bool (d := ?d1) (N := ?n1) ?h1 ?_); (case h1 => assumption))
  | ((with_reducible refine isi_str (d := ?d1) (N := ?n1) ?h1 ?_); (case h1 => assumption))
  | ((with_reducible refine isi_tuple (d := ?d1) (N := ?n1) ?h1 ?_); (case h1 => assumption))
  | with_reducible refine isi_str (N := fun _ => True) (Da.str _) ?_
  | with_reducible refine isi_int (N := fun _ => True) (Da.int _) ?_
  | with_reducible refine isi_bool (N := fun _ => True) (Da.int _) ?_
  | with_reducible refine isi_str (N := fun _ => True) (Da.int _) ?_
  | ((with_reducible show (wipe _ _ = wipe _ _) ∧ _); refine ⟨rfl, ?_⟩)
  | ((with_reducible show Ends.nx _ _ _); dsimp only)
  | ((with_reducible show Ends.rt _ _ _); dsimp only)
  | ((with_reducible show Ends.ct _ _ _); dsimp only)
  | ((with_reducible refine rd_ixT (xs := ?x1) (v := ?v1) ?h1 ?e1 ?_); (case h1 => walk_at "hp"); (case e1 => rfl))
  | ((with_reducible refine rd_ixL (xs := ?x1) (v := ?v1) ?h1 ?e1 ?_); (case h1 => walk_at "hp"); (case e1 => rfl))
  | ((with_reducible refine rd_lenT (xs := ?x1) ?h1 ?_); (case h1 => walk_at "hp"))
  | ((with_reducible refine rd_lenL (xs := ?x1) ?h1 ?_); (case h1 => walk_at "hp"))
  | ((with_reducible refine rd_tupOf (xs := ?x1) ?h1 ?_); (case h1 => walk_at "hp"))
  | ((with_reducible refine rd_all (bs := ?x1) ?h1 ?_); (case h1 => walk_at "hp"))
  | ((with_reducible refine rd_atT (xs := ?x1) ?h1 ?_); (case h1 => walk_at "hp"))
  | ((with_reducible refine rd_atL (xs := ?x1) ?h1 ?_); (case h1 => walk_at "hp"))
  | ((with_reducible refine rd_gtup (xs := ?x1) ?h1 ?e1 ?_); (case h1 => walk_at "hp"); (case e1 => rfl))
  | ((with_reducible refine rd_atEn (xs := ?x1) ?h1 ?_); (case h1 => walk_at "hp"))
  | ((with_reducible refine rd_slT (xs := ?x1) ?h1 ?_); (case h1 => walk_at "hp"))
  | ((with_reducible refine rd_slL (xs := ?x1) ?h1 ?_); (case h1 => walk_at "hp"))
  | ((with_reducible refine rd_inN (N := ?x1) ?h1 ?_); (case h1 => walk_at "hp"))
  | ((with_reducible refine rd_inL (N := ?x1) ?h1 ?_); (case h1 => walk_at "hp"))
  | ((with_reducible refine rd_notInN (N := ?x1) ?h1 ?_); (case h1 => walk_at "hp"))
  | ((with_reducible refine rd_notInL (N := ?x1) ?h1 ?_); (case h1 => walk_at "hp"))
  | with_reducible refine rd_tm ?_
  | ((with_reducible refine rd_isF (xs := ?x1) ?h1 ?_); (case h1 => walk_at "fz"))
  | ((with_reducible refine rd_lenTq (xs := ?x1) ?h1 ?_); (case h1 => walk_at "sq"))
  | ((with_reducible refine rd_atTq (xs := ?x1) ?h1 ?_); (case h1 => walk_at "sq"))
  | ((with_reducible refine rd_atEnq (xs := ?x1) ?h1 ?_); (case h1 => walk_at "sq"))
  | ((with_reducible refine rd_slTq (xs := ?x1) ?h1 ?_); (case h1 => walk_at "sq"))
  | ((with_reducible refine rd_inNq (N := ?x1) ?h1 ?_); (case h1 => walk_at "sq"))
  | ((with_reducible refine rd_setL (xs := ?x1) (j := ?j1) ?h1 ?e1 ?_); (case h1 => walk_at "hp"); (case e1 => rfl))
  | with_reducible refine rd_int1 ?_
  | with_reducible refine rd_x1 ?_
  | with_reducible refine rd_x2 ?_
  | ((with_reducible refine rd_tyL (xs := ?x1) ?h1 ?_); (case h1 => walk_at "hp"))
  | ((with_reducible refine rd_ixsL (xs := ?x1) (v := ?v1) ?h1 ?e1 ?_); (case h1 => walk_at "hp"); (case e1 => rfl))
  | ((with_reducible refine rd_ixsT (xs := ?x1) (v := ?v1) ?h1 ?e1 ?_); (case h1 => walk_at "hp"); (case e1 => rfl))
  | ((with_reducible refine rd_I ?c1 ?_); (case c1 => walk_at "ic"))
  | ((with_reducible refine if_t ?hb1 ?_); (case hb1 => rfl))
  | ((with_reducible refine if_f ?hb1 ?_); (case hb1 => rfl)))
local macro_rules | `(tactic| walk_at "go") => `(tactic| repeat (first | walk_at "st" | dsimp only))
section
variable {P : Program} {w : World} {K : Frag} {mg : Str → Option Value} {base : Heap}

abbrev N_L_are_values : List Str := ["_law_shape_here", "_law_thing", "_law_good", "_law_each"]
theorem sc_L_are_values : FnScope N_L_are_values ["_law_shape_here", "_law_thing"] (defScope s_L_are_values) := ⟨rfl, rfl, rfl, by decide +kernel, rfl, by decide +kernel, by decide +kernel⟩
theorem filt_all {ds : List PyData} : decide ((ds.filter intD).length = ds.length) = ds.all intD := by
  have h := List.length_filter_eq_length_iff (p := intD) (l := ds)
  by_cases g : ds.all intD = true
  · rw [g, decide_eq_true (h.mpr fun a ha => List.all_eq_true.mp g a ha)]
  · rw [decide_eq_false fun z => g (List.all_eq_true.mpr (h.mp z))]
    exact (Bool.eq_false_iff.mpr g).symm
theorem all_int {ds : List PyData} (h : ds.all intD = true) : ds = (ds.map intOf).map PyData.int := by
  induction ds with
  | nil => rfl
  | cons d ds ih =>
    rw [List.all_cons, Bool.and_eq_true] at h
    cases d with
    | int i => exact congrArg (fun z => PyData.int i :: z) (ih h.2)
    | _ => cases h.1
theorem btw_int {lo hi : Int} {d : PyData} (h : btwD lo hi d = true) : intD d = true := by
  cases d <;> first | rfl | cases h
def sp_Lare : Sp := fun vs H Q _ => ∃ p v, ∃ N : List Str, ∃ R Nn d, vs = [.ref p, v] ∧ ShapeAt H p N R ∧ Da Nn H v d ∧ (∀ ds, d = .tuple ds → ds.length ≤ 1000) ∧ ∀ H', Same H H' → Q (.bl (areVals N.length d)) H'
theorem c_L_are_values (S : Sys K mg) : C8.Cal P w K mg base 1 "_law_are_values" sp_Lare [] := by
  refine calD S.f_D_L_are_values S.g_L_are_values sc_L_are_values (fun _ _ _ _ _ _ us hl => match us, hl with | [_, _], _ => rfl) ?_ ?_
  · rintro vs H Q E ⟨_, _, _, _, _, _, rfl, _⟩
    rfl
  · rintro cdv A outer s H vs Q E hr ⟨p, v, N, R, Nn, d, rfl, ⟨pf, pr, as, h1, h2, h3, h4⟩, hd, hl, q⟩
    refine ⟨_, pss_cons (ps_if (PW.pt (pw_or (pt_not (pt_val (pe_callB (call_isiC (K := K) rfl) (by rfl) S.n_isinstance (by decide +kernel) (pa_cons (pv 1) (pa_cons (pe_bltn (v := .ty "tuple") (by rfl) S.n_tuple (by decide +kernel) rfl) pa_nil))))) (pw_or1 (pt_cmpR op_ne (pe_callB (call_len_seqC (K := K) rfl) (by rfl) S.n_len (by decide +kernel) (pa_cons (pv 1) pa_nil)) (pe_callB (call_len_seqC (K := K) rfl) (by rfl) S.n_len (by decide +kernel) (pa_cons (pe_ix (ix_tupC (K := K) rfl) (pv 0) pe_int (fun _ _ => rfl)) pa_nil)) (nomark _))))) (pss_one (ps_ret pe_bl)) pss_nil)
      (pss_cons (ps_setLc (i := 2) (own := [("_law_each", 3)]) (g := gName 3) rfl sc_L_are_values.nd rfl rfl (sw_true rfl rfl rfl (by decide +kernel)) (pi_tupC (K := K) rfl (pv 1)) (blkOk_by (N := N_L_are_values) (sc := defScope s_L_are_values) (by decide +kernel)) (fun _ _ _ _ _ => (pg_name (i := 3) sc_L_are_values.nd rfl (Or.inl rfl))) (fun _ _ _ _ _ => pts_one (PW.pt (pw_and (pt_val (pe_callB (call_isiC (K := K) rfl) (by rfl) S.n_isinstance (by decide +kernel) (pa_cons (pv 3) (pa_cons (pe_bltn (v := .ty "int") (by rfl) S.n_int (by decide +kernel) rfl) pa_nil)))) (pw_and1 (pt_not (pt_val (pe_callB (call_isiC (K := K) rfl) (by rfl) S.n_isinstance (by decide +kernel) (pa_cons (pv 3) (pa_cons (pe_bltn (v := .ty "bool") (by rfl) S.n_bool (by decide +kernel) rfl) pa_nil))))))))) (fun _ _ _ _ _ => (pv 3)))
      (pss_one (ps_ret (pe_and (pe_cmpR op_eq (pe_callB (call_len_seqC (K := K) rfl) (by rfl) S.n_len (by decide +kernel) (pa_cons (pv 2) pa_nil)) (pe_callB (call_len_seqC (K := K) rfl) (by rfl) S.n_len (by decide +kernel) (pa_cons (pv 1) pa_nil)) (nomark _)) (pe_one (pe_callB (cr_allC (K := K) rfl rfl) (by rfl) S.n_all (by decide +kernel) (pa_cons (pe_lc (own := [("_law_each", 3)]) (g := gName 3) (tt := tYes) rfl sc_L_are_values.nd (pi_tupC (K := K) rfl (pv 1)) (blkOk_by (N := N_L_are_values) (sc := defScope s_L_are_values) (by decide +kernel)) (fun _ _ _ _ _ => (pg_name (i := 3) sc_L_are_values.nd rfl (Or.inl rfl))) (fun _ _ _ _ _ => pts_nil) (fun _ _ _ _ _ => (pe_chain op_le op_le (pe_un un_neg (pe_op op_pow pe_int pe_int)) (pv 3) (pe_op op_pow pe_int pe_int)))) pa_nil))))))), ?_⟩
    walk_at "go"
    refine ifb (fun h => ?_) fun h => ?_
    · have e : areVals N.length d = false := by cases d <;> first | rfl | cases h
      rw [e] at q
      walk_at "go"
      exact q _ (Same.refl H)
    · cases d with
      | tuple ds =>
        obtain ⟨a, xs, rfl, ha, hda⟩ := hd.tupInv
        have hlen := hda.len
        have hl2 := hl ds rfl
        walk_at "go"
        rw [hlen, List.length_map]
        refine ifb (fun h => ?_) fun h => ?_
        · have e : areVals N.length (.tuple ds) = false := by
            show (decide (ds.length = N.length) && _) = false
            rw [decide_eq_false, Bool.false_and]
            intro z
            rw [z] at h
            simp at h
          rw [e] at q
          walk_at "go"
          exact q _ (Same.refl H)
        have hN : ds.length = N.length := by
          simp at h
          omega
        have ev : areVals N.length (.tuple ds) = ds.all (btwD (-1000000000) 1000000000) := by
          show (decide (ds.length = N.length) && _) = _
          rw [decide_eq_true hN, Bool.true_and]
        rw [ev] at q
        walk_at "go"
        refine lcW (n := xs.length) (Y := YAt xs) walk_tup (fun j acc _ => acc.length = ((ds.take j).filter intD).length) (fun _ _ _ _ _ h => h) rfl (by omega) (fun H1 s => .inl (.inl (s _ _ ha))) (fun j x acc H1 H1' hj s f _ hY Qy Qn hQ hN' => ?_) fun L H1 acc hL s e f _ => ?_
        · obtain ⟨rfl, hx⟩ := hY
          obtain ⟨dx, g1, g2⟩ := hda.get hx
          have g3 := g2.same s
          have tk : (ds.take (j + 1)).filter intD = (ds.take j).filter intD ++ (if intD dx = true then [dx] else []) := by
            rw [List.take_add_one, g1, List.filter_append]
            cases hi : intD dx <;> simp [hi]
          have yes : intD dx = true → Qy x H1' := fun hi => hQ _ _ (Same.refl _) (by rw [tk, if_pos hi, List.length_append, List.length_append, f] <;> rfl)
          have no : intD dx = false → Qn H1' := fun hi => hN' _ (Same.refl _) (by rw [tk, if_neg (by rw [hi]; exact Bool.false_ne_true), List.append_nil, f])
          walk_at "go"
          refine ifb (fun h => ?_) fun h => ?_
          · walk_at "go"
            refine ifb (fun h' => ?_) fun h' => ?_
            · walk_at "go"
              refine yes ?_
              rw [intD_eq, h, Bool.true_and]
              exact h'
            · refine no ?_
              rw [intD_eq, h, Bool.true_and]
              exact h'
          · refine no ?_
            rw [intD_eq, h, Bool.false_and]
        · rw [List.take_of_length_le (by omega)] at f
          have ha1 := s _ _ ha
          walk_at "go"
          rw [f, hlen]
          have ei : decide (((ds.filter intD).length : Int) = (ds.length : Nat)) = ds.all intD := by
            rw [← filt_all]
            by_cases g : (ds.filter intD).length = ds.length
            · rw [decide_eq_true g, decide_eq_true (by omega)]
            · rw [decide_eq_false g, decide_eq_false (by omega)]
          rw [ei]
          refine ifb (fun h => ?_) fun h => ?_
          · have hds := all_int h
            rw [hds] at hda
            have hxs := hda.ofInts
            subst hxs
            walk_at "go"
            refine lcM walk_tup ((ds.map (btwD (-1000000000) 1000000000)).map V.bl) (by simp) (by simp; omega) (fun H1 s' => .inl (.inl (s' _ _ ha1))) (fun j x H2 H2' y hj s' hY hy Qy Qn hQ => ?_) fun L2 H2 hL2 s' e' => ?_
            · obtain ⟨rfl, hx⟩ := hY
              rw [List.getElem?_map, List.getElem?_map] at hx hy
              cases hdj : ds[j]? with
              | none =>
                rw [hdj] at hx
                cases hx
              | some dj =>
                rw [hdj] at hx hy
                cases hx
                cases hy
                have hij : intD dj = true := List.all_eq_true.mp h dj (List.mem_of_getElem? hdj)
                cases dj with
                | int i =>
                  walk_at "go"
                  have hp : (10 : Int) ^ Int.toNat 9 = 1000000000 := by decide
                  rw [hp]
                  have ei2 : intOf (PyData.int i) = i := rfl
                  rw [ei2]
                  have eb : btwD (-1000000000) 1000000000 (.int i) = (decide (-1000000000 ≤ i) && decide (i ≤ 1000000000)) := rfl
                  rw [eb] at hQ
                  refine ifb (fun h7 => ?_) fun h7 => ?_
                  · rw [h7, Bool.true_and] at hQ
                    walk_at "go"
                    rw [hp]
                    exact hQ _ (Same.refl _)
                  · rw [h7, Bool.false_and] at hQ
                    exact hQ _ (Same.refl _)
                | _ => cases hij
            · walk_at "go"
              have e2 : (ds.map (btwD (-1000000000) 1000000000)).all id = ds.all (btwD (-1000000000) 1000000000) := by rw [List.all_map] <;> rfl
              rw [e2]
              exact q _ (Same.trans s s')
          · have e3 : ds.all (btwD (-1000000000) 1000000000) = false := by
              refine Bool.eq_false_iff.mpr fun z => ?_
              have : ds.all intD = true := List.all_eq_true.mpr fun d hd' => btw_int (List.all_eq_true.mp z d hd')
              rw [h] at this
              cases this
            rw [e3] at q
            exact q _ s
      | _ => cases h
abbrev N_L_is_good : List Str := ["_law_shape_here", "_law_thing", "_law_bond_here"]
theorem sc_L_is_good : FnScope N_L_is_good ["_law_shape_here", "_law_thing"] (defScope s_L_is_good) := ⟨rfl, rfl, rfl, by decide +kernel, rfl, by decide +kernel, by decide +kernel⟩
def sp_Lgood : Sp := fun vs H Q _ => ∃ p v, ∃ N : List Str, ∃ R Nn d, vs = [.ref p, v] ∧ ShapeAt H p N R ∧ FormOk N R ∧ Da Nn H v d ∧ (∀ ds, d = .tuple ds → ds.length ≤ 1000) ∧ ∀ H', Same H H' → Q (.bl (goodB N R d)) H'
theorem c_L_is_good (S : Sys K mg) : C8.Cal P w K mg base 3 "_law_is_good" sp_Lgood [] := by
  refine calD S.f_D_L_is_good S.g_L_is_good sc_L_is_good (fun _ _ _ _ _ _ us hl => match us, hl with | [_, _], _ => rfl) ?_ ?_
  · rintro vs H Q E ⟨_, _, _, _, _, _, rfl, _⟩
    rfl
  · rintro cdv A outer s H vs Q E hr ⟨p, v, N, R, Nn, d, rfl, sh, ok, hd, hl, q⟩
    refine ⟨_, pss_one (ps_ret (pe_and (C8.pe_c (c_L_are_values (K := K) S) hr (by decide) rfl (pa_cons (pv 0) (pa_cons (pv 1) pa_nil))) (pe_one (pe_callB (cr_allC (K := K) rfl rfl) (by rfl) S.n_all (by decide +kernel) (pa_cons (pe_lc (own := [("_law_bond_here", 2)]) (g := gName 2) (tt := tYes) rfl sc_L_is_good.nd (pi_tupC (K := K) rfl (pe_ix (ix_tupC (K := K) rfl) (pv 0) pe_int (fun _ _ => rfl))) (blkOk_by (N := N_L_is_good) (sc := defScope s_L_is_good) (by decide +kernel)) (fun _ _ _ _ _ => (pg_name (i := 2) sc_L_is_good.nd rfl (Or.inl rfl))) (fun _ _ _ _ _ => pts_nil) (fun _ _ _ _ _ => (C8.pe_c (c_L_keeps (K := K) S) hr (by decide) rfl (pa_cons (pv 0) (pa_cons (pv 1) (pa_cons (pv 2) pa_nil)))))) pa_nil))))), ?_⟩
    walk_at "go"
    refine ⟨p, v, N, R, Nn, d, rfl, sh, hd, hl, fun H1 s1 => ?_⟩
    walk_at "go"
    refine ifb (fun h => ?_) fun h => ?_
    · cases d with
      | tuple ds =>
        have h2 : decide (ds.length = N.length) = true ∧ ds.all (btwD (-1000000000) 1000000000) = true := by
          have h3 : (decide (ds.length = N.length) && ds.all (btwD (-1000000000) 1000000000)) = true := h
          rwa [Bool.and_eq_true] at h3
        have hds := all_btw h2.2
        have hlen := of_decide_eq_true h2.1
        obtain ⟨a, xs, rfl, ha, hda⟩ := hd.tupInv
        rw [hds] at hda
        have hxs := hda.ofInts
        subst hxs
        have e4 : goodB N R (.tuple ds) = R.all (keepsB N (ds.map intOf)) := by
          show (areVals N.length (.tuple ds) && _) = _
          rw [h, Bool.true_and]
        rw [e4] at q
        have sh1 := sh.tk (Same.tk s1)
        have ha1 := s1 _ _ ha
        obtain ⟨pf, pr, as, g1, g2, g3, g4⟩ := sh1.ex
        have ll : (as.map V.ref).length = R.length := by rw [List.length_map, g4.1]
        walk_at "go"
        refine lcM (n := R.length) (G := fun H => SqT K H pr (as.map V.ref)) (Y := YAt (as.map V.ref)) (ll ▸ walk_tup) ((R.map (keepsB N (ds.map intOf))).map V.bl) (by simp) (by have := ok.r9; omega) (fun H2 s => .inl (.inl (s _ _ g3))) (fun j x H2 H2' y hj s hY hy Qy Qn hQ => ?_) fun L H2 hL s e => ?_
        · obtain ⟨rfl, hx⟩ := hY
          obtain ⟨b, r, rfl, hb, hrr, hat⟩ := (g4.tk (Same.tk s)).get hx
          rw [List.getElem?_map, List.getElem?_map, hrr] at hy
          cases hy
          walk_at "go"
          exact ⟨p, a, b, N, R, r, ds.map intOf, rfl, sh1.tk (Same.tk s), ok.nd, ok.ne, ok.n5, s _ _ ha1, by rw [List.length_map, hlen], hat, ok.rl r (List.mem_of_getElem? hrr), fun H3 s3 => hQ _ s3⟩
        · walk_at "go"
          have e2 : (R.map (keepsB N (ds.map intOf))).all id = R.all (keepsB N (ds.map intOf)) := by rw [List.all_map] <;> rfl
          rw [e2]
          exact q _ (Same.trans s1 s)
      | _ => cases h
    · have e : goodB N R d = false := by
        unfold goodB
        rw [h, Bool.false_and]
      rw [e] at q
      exact q _ s1
end
end K59
/-! K59Auto4 -/
set_option Elab.async false
set_option linter.all false
set_option maxRecDepth 100000
set_option maxHeartbeats 4000000
namespace K59
open PySem PySem.W PySem.Calls PySem.Spec PyProof.Rows L2
section
variable {σ : L2.St} {H : Hp} {Q : VK} {td ty tx tv : TE} {D : Ends}
theorem rd_din {Q : VK} (q : ty σ H fun y H1 => td σ H1 fun x H2 => ∃ a o, x = .ref a ∧ DGet H2 a y o ∧ Q (.bl o.isSome) H2) : tDIn ty td σ H Q := q
theorem rd_dget2 (q : td σ H fun x H1 => ∃ a, x = .ref a ∧ IsD H1 a ∧ ty σ H1 fun y H2 => tx σ H2 fun z H3 => ∃ o, DGet H3 a y o ∧ Q (o.getD z) H3) : tDGet2 td ty tx σ H Q := q
theorem rd_dput (q : tv σ H fun v H1 => td σ H1 fun x H2 => ty σ H2 fun y H3 => ∃ a H4, x = .ref a ∧ DPut H3 a y v H4 ∧ D.nx σ H4) : sDPut td ty tv D σ H := q
end
end K59
/-! K59DictT -/
set_option Elab.async false
set_option linter.all false
set_option maxRecDepth 100000
set_option maxHeartbeats 4000000
namespace K59
open PySem PySem.W PySem.Calls PySem.Spec PyProof.Rows L2
/-! ### dict(xs) of a list of pairs (tuple key, value) -/
def mergeT (kvs more : List (List Key × V)) : List (List Key × V) := more.foldl (fun acc kv => putK acc kv.1 kv.2) kvs
theorem length_mergeT : ∀ (more kvs : List (List Key × V)), (mergeT kvs more).length ≤ kvs.length + more.length
  | [], _ => Nat.le_refl _
  | p :: more, kvs => by
    have h := length_mergeT more (putK kvs p.1 p.2)
    have g := length_putK kvs p.1 p.2
    show (mergeT (putK kvs p.1 p.2) more).length ≤ kvs.length + (more.length + 1)
    omega
section
variable {X : Cx}
theorem kt_all {H : Hp} : ∀ {more : List (List Key × V)} {rs : List (List Key × Addr × Value)} {kvs : List (List Key × V)} {xs : List (List Key × Addr × Value)}, KT H more rs → KT H kvs xs → KT H (mergeT kvs more) (storedAllH xs rs)
  | _, _, _, _, .nil, r => r
  | _, _, _, _, .cons (a := p) (b := q) h t, r => by
    have r2 := KT.put r p.1 h.2.1 h.2.2
    have e : q.1 = p.1 := h.1.symm
    show KT H (mergeT (putK _ p.1 p.2) _) (storedAllH (storedH _ q.1 q.2.1 q.2.2) _)
    rw [e]
    exact kt_all t r2
theorem pairs_ofT {pins : List (Addr × Obj)} {σ : L2.St} {H : Hp} {s : Shared} (I : L2.Inv X pins σ H s) : ∀ {ps : List Addr} {kvs : List (List Key × V)}, Paired (fun p kv => ∃ b, H p = some (.tup [.ref b, kv.2]) ∧ H b = some (.tup (kv.1.map kV))) ps kvs →
    ∃ xs : List (List Key × Addr × Value), KT H kvs xs ∧ xs.length = ps.length ∧ ∀ (j : Nat) (q : List Key × Addr × Value), xs[j]? = some q → ∃ p : Addr, ps[j]? = some p ∧ s.heap.IsTuple p #[.ref q.2.1, q.2.2] ∧ (tupleKind (mixKind X.prog X.w)).is s.heap q.1 q.2.1
  | _, _, .nil => ⟨[], .nil, rfl, fun j q e => by simp at e⟩
  | _, _, .cons (a := p) (b := kv) h t => by
    obtain ⟨xs, r, hl, hp⟩ := pairs_ofT I t
    obtain ⟨b, h1, h2⟩ := h
    obtain ⟨its, rv, ht, _⟩ := I.tuple (.inl (.inl h1))
    obtain ⟨u, y, ei, ru, ry⟩ := L2.vals2 rv
    subst ei
    cases ru
    refine ⟨(kv.1, b, y) :: xs, .cons ⟨rfl, h2, ry⟩ r, by rw [List.length_cons, List.length_cons, hl], fun j q e => ?_⟩
    cases j with
    | zero =>
      have e' : (kv.1, b, y) = q := Option.some.inj e
      subst e'
      exact ⟨p, rfl, ht, key_of I.hok h2⟩
    | succ j =>
      obtain ⟨p', e1, e2, e3⟩ := hp j q (by simpa using e)
      exact ⟨p', by simpa using e1, e2, e3⟩
theorem call_dictT {K : Frag} (hK : X.K = K) (hcalm : X.calm = true) (hu : X.A.units + 64 < cLine) : CallR X (.type "dict") (fun xs H Q => ∃ (a : Addr) (ps : List Addr) (kvs : List (List Key × V)), xs = [.ref a] ∧ SqL K H a (ps.map V.ref) ∧ Paired (fun p kv => ∃ b, H p = some (.tup [.ref b, kv.2]) ∧ H b = some (.tup (kv.1.map kV))) ps kvs ∧
    ∀ p, H p = none → Q (.ref p) (upd H p (.dT (mergeT [] kvs)))) := by
  subst hK
  intro pins s σ H xs us Q I r q
  obtain ⟨a, ps, kvs, ex, hq, hp, q⟩ := q
  subst ex
  obtain ⟨u, eu, rx⟩ := L2.vals1 r
  subst eu
  cases rx
  obtain ⟨its, rv, pl, hz⟩ := I.list hq
  have ei := refs_at rv
  subst ei
  rw [List.length_map] at hz
  obtain ⟨xs, rel, hl, hpr⟩ := pairs_ofT I hp
  obtain ⟨o, n, ho, hc, hd, hdat⟩ := pl
  let prs : List (Value × Value) := xs.map fun x => (.ref x.2.1, x.2.2)
  have hpl : prs.length = ps.length := by
    show (xs.map _).length = _
    rw [List.length_map, hl]
  have gx : ∀ {i : Nat} {k v : Value}, prs[i]? = some (k, v) → ∃ x, xs[i]? = some x ∧ k = .ref x.2.1 ∧ v = x.2.2 := fun {i k v} e => by
    have e : (xs.map fun x => ((Value.ref x.2.1, x.2.2) : Value × Value))[i]? = some (k, v) := e
    rw [List.getElem?_map] at e
    obtain ⟨x, hx, hh⟩ := Option.map_eq_some_iff.mp e
    cases hh
    exact ⟨x, hx, rfl, rfl⟩
  refine call_dict_pairsH (knd := tupleKind (mixKind X.prog X.w)) (ps := xs) (PairArg.list a (ps.map Value.ref).toArray (fun j => (ps[j]?).getD 0) prs) (I.ok.hd hcalm) (show X.A.units + 1 + 1 < cLine by omega) ⟨⟨o, n, ho, hc, hd, hdat⟩, by simp [hpl], fun j k v e => ?_⟩ ⟨by rw [hpl, hl], fun i k v e => ?_⟩ (fun h' hk x hx => ?_) (by rw [hpl]; exact hz) fun h' tk hd' hk => ?_
  · obtain ⟨x, hx, rfl, rfl⟩ := gx e
    obtain ⟨p, e1, e2, _⟩ := hpr j x hx
    refine ⟨by simp [e1], .inl ?_⟩
    show s.heap.IsTuple ((ps[j]?).getD 0) _
    rw [e1]
    exact e2
  · obtain ⟨x, hx, rfl, rfl⟩ := gx e
    exact ⟨x.1, x.2.1, hx, rfl⟩
  · obtain ⟨j, hj⟩ := List.getElem?_of_mem hx
    obtain ⟨p, _, _, o', its', n', g1, g2⟩ := hpr j x hj
    exact ⟨o', its', n', hk _ _ (Nat.ne_of_lt (Heap.lt_size g1)) (by simp) g1, g2⟩
  · have hm : (s.heap.objs.size == sysModules) = false := beq_eq_false_iff_ne.mpr (Nat.ne_of_gt I.big)
    have hlen : (mergeT [] kvs).length ≤ sizeLine := by
      refine Nat.le_trans (length_mergeT kvs []) ?_
      rw [List.length_nil, Nat.zero_add, Paired.length rel, hl]
      exact hz
    have hn : H s.heap.objs.size = none := I.hok.fresh (Nat.le_refl _)
    have kt := kt_all rel (Paired.nil : KT H [] [])
    obtain ⟨o2, es, ep, g1, g2, g3, g4, _, g6⟩ := hd'
    refine ⟨.ref s.heap.objs.size, upd H s.heap.objs.size (.dT (mergeT [] kvs)), I.laid (t' := tk) (fun b o e => hk b o (by simp) e) (Nat.le_refl _) (show ObjOk X.prog X.w _ _ _ (.dT (mergeT [] kvs)) from ⟨hlen, hm, _, kt.keeps fun b ys e => ?_, o2, es, ep, g1, g2, g3, g4, g6⟩), rfl, q _ hn⟩
    rw [upd_ne (ne_of_none e hn)]
    exact e
end
end K59
/-! K59L7 -/
set_option Elab.async false
set_option linter.all false
set_option maxRecDepth 100000
set_option maxHeartbeats 4000000
namespace K59
open PySem PySem.W PySem.Calls PySem.Spec PyProof.Rows L2
local macro_rules | `(tactic| walk_at "hp") => `(tactic| first
  | assumption
  | exact upd_same
  | (refine same_new (by assumption) _ _ ?_; walk_at "hp")
  | (refine (by assumption : Same _ _) _ _ ?_; walk_at "hp")
  | (refine FK.tk (by assumption) (by assumption) _ _ ?_; walk_at "hp"))
local macro_rules | `(tactic| walk_at "sq") => `(tactic| first
  | assumption
  | exact FrzT.sq (by assumption)
  | (refine sqt_new (by assumption) ?_; walk_at "sq")
  | (refine sqt_same ?_ (by assumption); walk_at "sq"))
local macro_rules | `(tactic| walk_at "fz") => `(tactic| first
  | assumption
  | (refine frz_new (by assumption) ?_; walk_at "fz")
  | (refine FrzT.same ?_ (by assumption); walk_at "fz"))
local macro_rules | `(tactic| walk_at "ic") => `(tactic| first
  | ((with_reducible show (0 : Int) < _); decide)
  | exact Or.inl ⟨by decide, by decide⟩
  | exact Or.inr ⟨by decide, by decide⟩
  | exact (show (0 : Int) < _ ∧ _ < (1073741824 : Int) from ⟨by decide, by decide⟩)
  | exact (show (0 : Int) ≤ _ ∧ _ ≤ (1000000 : Int) ∧ Int.natAbs _ < 2 ^ 64 from ⟨by decide, by decide, by decide⟩)
  | exact (⟨by decide, by decide, by decide⟩ : _ ∧ _ ∧ _))
local macro_rules | `(tactic| walk_at "st") => `(tactic| first
  | with_reducible refine rd_var rfl ?_
  | with_reducible refine rd_c ?_
  | with_reducible refine rd_cons ?_
  | with_reducible refine rd_nil ?_
  | with_reducible refine rd_op ?_
  | with_reducible refine rd_cb ?_
  | with_reducible refine rd_call ?_
  | with_reducible refine rd_test ?_
  | with_reducible refine rd_B ?_
  | with_reducible refine rd_bl ?_
  | with_reducible refine rd_un ?_
  | with_reducible refine rd_and ?_
  | with_reducible refine rd_or ?_
  | with_reducible refine rd_not ?_
  | with_reducible refine rd_andV ?_
  | with_reducible refine rd_orV ?_
  | with_reducible refine rd_notV ?_
  | with_reducible refine rd_if ?_
  | with_reducible refine rd_chain ?_
  | with_reducible refine rd_I0 ?_
  | with_reducible refine rd_U ?_
  | with_reducible refine rd_eqI ?_
  | with_reducible refine rd_neI ?_
  | with_reducible refine rd_eqS ?_
  | with_reducible refine rd_neS ?_
  | with_reducible refine rd_nn ?_
  | with_reducible refine rd_asg ?_
  | with_reducible refine rd_gname ?_
  | with_reducible refine rd_seq ?_
  | with_reducible refine rd_ifS ?_
  | with_reducible refine rd_ret ?_
  | with_reducible refine rd_next ?_
  | with_reducible refine rd_cont ?_
  | with_reducible refine rd_drop ?_
  | with_reducible refine rd_par ?_
  | with_reducible refine rd_vs2 ?_
  | with_reducible refine rd_gsub ?_
  | with_reducible refine rd_gcons ?_
  | with_reducible refine rd_gnil ?_
  | with_reducible refine rd_tup ?_
  | with_reducible refine rd_lst ?_
  | with_reducible refine rd_sl ?_
  | with_reducible refine rd_part ?_
  | with_reducible refine rd_nopart ?_
  | with_reducible refine rd_i1 ?_
  | with_reducible refine rd_bm ?_
  | with_reducible refine rd_yes ?_
  | with_reducible refine rd_lcT ?_
  | with_reducible refine rd_lcL ?_
  | with_reducible refine rd_lcR1 ?_
  | with_reducible refine rd_lcS ?_
  | with_reducible refine rd_forT ?_
  | with_reducible refine rd_forL ?_
  | with_reducible refine rd_forR1 ?_
  | with_reducible refine rd_atS ?_
  | with_reducible refine rd_forEn ?_
  | with_reducible refine rd_dget ?_
  | with_reducible refine rd_din ?_
  | with_reducible refine rd_dget2 ?_
  | with_reducible refine rd_dput ?_
  | with_reducible refine rd_disp ?_
  | with_reducible refine rd_pcons ?_
  | with_reducible refine rd_pnil ?_
  | with_reducible refine rd_dcL ?_
  | with_reducible refine rd_lcEn ?_
  | with_reducible refine rd_yS ?_
  | with_reducible refine rd_m1 ?_
  | with_reducible refine rd_meth ?_
  | with_reducible refine rd_fld ?_
  | with_reducible refine rd_sfld ?_
  | with_reducible refine rd_make ?_
  | with_reducible refine rd_fmt ?_
  | with_reducible refine rd_js ?_
  | with_reducible refine rd_js0 ?_
  | with_reducible refine iteT ?_
  | with_reducible refine iteF ?_
  | ((with_reducible refine isi_int (d := ?d1) (N := ?n1) ?h1 ?_); (case h1 => assumption))
  | ((with_reducible refine isi_bool (d := ?d1) (N := ?n1) ?h1 ?_); (case h1 => assumption))
  | ((with_reducible refine isi_str (d := ?d1) (N := ?n1) ?h1 ?_); (case h1 => assumption))
  | ((with_reducible refine isi_tuple (d := ?d1) (N := ?n1) ?h1 ?_); (case h1 => assumption))
  | with_reducible refine isi_str (N := fun _ => True) (Da.str _) ?_
  | with_reducible refine isi_int (N := fun _ => True) (Da.int _) ?_
  | with_reducible refine isi_bool (N := fun _ => True) (Da.int _) ?_
  | with_reducible refine isi_str (N := fun _ => True) (Da.int _) ?_
  | ((with_reducible show (wipe _ _ = wipe _ _) ∧ _); refine ⟨rfl, ?_⟩)
  | ((with_reducible show Ends.nx _ _ _); dsimp only)
  | ((with_reducible show Ends.rt _ _ _); dsimp only)
  | ((with_reducible show Ends.ct _ _ _); dsimp only)
  | ((with_reducible refine rd_ixT (xs := ?x1) (v := ?v1) ?h1 ?e1 ?_); (case h1 => walk_at "hp"); (case e1 => rfl))
  | ((with_reducible refine rd_ixL (xs := ?x1) (v := ?v1) ?h1 ?e1 ?_); (case h1 => walk_at "hp"); (case e1 => rfl))
  | ((with_reducible refine rd_lenT (xs := ?x1) ?h1 ?_); (case h1 => walk_at "hp"))
  | ((with_reducible refine rd_lenL (xs := ?x1) ?h1 ?_); (case h1 => walk_at "hp"))
  | ((with_reducible refine rd_tupOf (xs := ?x1) ?h1 ?_); (case h1 => walk_at "hp"))
  | ((with_reducible refine rd_all (bs := ?x1) ?h1 ?_); (case h1 => walk_at "hp"))
  | ((with_reducible refine rd_atT (xs := ?x1) ?h1 ?_); (case h1 => walk_at "hp"))
  | ((with_reducible refine rd_atL (xs := ?x1) ?h1 ?_); (case h1 => walk_at "hp"))
  | ((with_reducible refine rd_gtup (xs := ?x1) ?h1 ?e1 ?_); (case h1 => walk_at "hp"); (case e1 => rfl))
  | ((with_reducible refine rd_atEn (xs := ?x1) ?h1 ?_); (case h1 => walk_at "hp"))
  | ((with_reducible refine rd_slT (xs := ?x1) ?h1 ?_); (case h1 => walk_at "hp"))
  | ((with_reducible refine rd_slL (xs := ?x1) ?h1 ?_); (case h1 => walk_at "hp"))
  | ((with_reducible refine rd_inN (N := ?x1) ?h1 ?_); (case h1 => walk_at "hp"))
  | ((with_reducible refine rd_inL (N := ?x1) ?h1 ?_); (case h1 => walk_at "hp"))
  | ((with_reducible refine rd_notInN (N := ?x1) ?h1 ?_); (case h1 => walk_at "hp"))
  | ((with_reducible refine rd_notInL (N := ?x1) ?h1 ?_); (case h1 => walk_at "hp"))
  | with_reducible refine rd_tm ?_
  | ((with_reducible refine rd_isF (xs := ?x1) ?h1 ?_); (case h1 => walk_at "fz"))
  | ((with_reducible refine rd_lenTq (xs := ?x1) ?h1 ?_); (case h1 => walk_at "sq"))
  | ((with_reducible refine rd_atTq (xs := ?x1) ?h1 ?_); (case h1 => walk_at "sq"))
  | ((with_reducible refine rd_atEnq (xs := ?x1) ?h1 ?_); (case h1 => walk_at "sq"))
  | ((with_reducible refine rd_slTq (xs := ?x1) ?h1 ?_); (case h1 => walk_at "sq"))
  | ((with_reducible refine rd_inNq (N := ?x1) ?h1 ?_); (case h1 => walk_at "sq"))
  | ((with_reducible refine rd_setL (xs := ?x1) (j := ?j1) ?h1 ?e1 ?_); (case h1 => walk_at "hp"); (case e1 => rfl))
  | with_reducible refine rd_int1 ?_
  | with_reducible refine rd_x1 ?_
  | with_reducible refine rd_x2 ?_
  | ((with_reducible refine rd_tyL (xs := ?x1) ?h1 ?_); (case h1 => walk_at "hp"))
  | ((with_reducible refine rd_ixsL (xs := ?x1) (v := ?v1) ?h1 ?e1 ?_); (case h1 => walk_at "hp"); (case e1 => rfl))
  | ((with_reducible refine rd_ixsT (xs := ?x1) (v := ?v1) ?h1 ?e1 ?_); (case h1 => walk_at "hp"); (case e1 => rfl))
  | ((with_reducible refine rd_I ?c1 ?_); (case c1 => walk_at "ic"))
  | ((with_reducible refine if_t ?hb1 ?_); (case hb1 => rfl))
  | ((with_reducible refine if_f ?hb1 ?_); (case hb1 => rfl)))
local macro_rules | `(tactic| walk_at "go") => `(tactic| repeat (first | walk_at "st" | dsimp only))
section
variable {P : Program} {w : World} {K : Frag} {mg : Str → Option Value} {base : Heap}

/-! ### the law's table -/
abbrev TF := Str → Str → Option Int
def keyT (a b : Str) : List Key := [.inr a, .inr b]
def Tab (kvs : List (List Key × V)) (T : TF) : Prop := ∀ a b, valV kvs (keyT a b) = (T a b).map V.int
def setT (T : TF) (a b : Str) (v : Int) : TF := fun x y => if x = a ∧ y = b then some v else T x y
def mn (i j : Int) : Int := if j < i then j else i
def relaxT (T : TF) (a b : Str) (v : Int) : TF := setT T a b (mn v ((T a b).getD v))
def stepT (T : TF) (m h l : Str) : TF := match T h m, T m l with
  | some u, some v => relaxT T h l (u + v)
  | _, _ => T
def rowT (m h : Str) (L : List Str) (T : TF) : TF := L.foldl (fun T l => stepT T m h l) T
def midT (m : Str) (nodes L : List Str) (T : TF) : TF := L.foldl (fun T h => rowT m h nodes T) T
def t0 (nodes : List Str) : TF := nodes.foldl (fun T e => setT T e e 0) fun _ _ => none
def t1 (R : List Rl) (T : TF) : TF := R.foldl (fun T r => relaxT T r.hi r.lo r.bd) T
def allT (nodes L : List Str) (T : TF) : TF := L.foldl (fun T m => midT m nodes nodes T) T
def tabF (N : List Str) (R : List Rl) : TF := allT (eS :: N) (eS :: N) (t1 R (t0 (eS :: N)))
theorem keyT_inj {a b x y : Str} : keyT x y = keyT a b ↔ x = a ∧ y = b := by
  constructor
  · intro h
    have h1 := List.cons.inj h
    have h2 := List.cons.inj h1.2
    exact ⟨Sum.inr.inj h1.1, Sum.inr.inj h2.1⟩
  · rintro ⟨rfl, rfl⟩
    rfl
theorem Tab.put {kvs : List (List Key × V)} {T : TF} (h : Tab kvs T) (a b : Str) (v : Int) : Tab (putK kvs (keyT a b) (.int v)) (setT T a b v) := fun x y => by
  rw [valV_put]
  unfold setT
  by_cases g : x = a ∧ y = b
  · rw [if_pos (keyT_inj.mpr g), if_pos g] <;> rfl
  · rw [if_neg fun z => g (keyT_inj.mp z), if_neg g]
    exact h x y
theorem Tab.nil : Tab [] (fun _ _ => none) := fun _ _ => rfl
theorem Tab.merge0 : ∀ (L : List Str) {kvs : List (List Key × V)} {T : TF}, Tab kvs T → Tab (mergeT kvs (L.map fun e => (keyT e e, V.int 0))) (L.foldl (fun T e => setT T e e 0) T)
  | [], _, _, h => h
  | e :: L, _, _, h => Tab.merge0 L (h.put e e 0)
def DT (H : Hp) (D : Addr) (T : TF) (c : Nat) : Prop := ∃ kvs, H D = some (.dT kvs) ∧ Tab kvs T ∧ kvs.length ≤ c
theorem DT.same {H H' : Hp} {D : Addr} {T : TF} {c : Nat} (h : DT H D T c) (s : Same H H') : DT H' D T c := let ⟨kvs, a, b, d⟩ := h; ⟨kvs, s _ _ a, b, d⟩
theorem DT.le {H : Hp} {D : Addr} {T : TF} {c c' : Nat} (h : DT H D T c) (l : c ≤ c') : DT H D T c' := let ⟨kvs, a, b, d⟩ := h; ⟨kvs, a, b, Nat.le_trans d l⟩
theorem DT.get {H : Hp} {D p : Addr} {T : TF} {c : Nat} {a b : Str} (h : DT H D T c) (e : H p = some (.tup [.str a, .str b])) : DGet H D (.ref p) ((T a b).map V.int) := by
  obtain ⟨kvs, h1, h2, _⟩ := h
  have := DGet.t (k := keyT a b) h1 e
  rw [h2 a b] at this
  exact this
theorem DT.isD {H : Hp} {D : Addr} {T : TF} {c : Nat} (h : DT H D T c) : IsD H D := by
  obtain ⟨kvs, h1, _⟩ := h
  exact .inr ⟨kvs, .inl h1⟩
theorem DT.put {H : Hp} {D p : Addr} {T : TF} {c : Nat} {a b : Str} {v : Int} (h : DT H D T c) (e : H p = some (.tup [.str a, .str b])) (hc : c < 10000) : ∃ H', DPut H D (.ref p) (.int v) H' ∧ Kp D H H' ∧ DT H' D (setT T a b v) (c + 1) := by
  obtain ⟨kvs, h1, h2, h3⟩ := h
  exact ⟨_, DPut.t (k := keyT a b) h1 e (Nat.lt_of_le_of_lt h3 (Nat.lt_trans hc (by decide))), kp_upd _, _, upd_same, h2.put a b v, Nat.le_trans (length_putK _ _ _) (Nat.succ_le_succ h3)⟩
theorem optD (o : Option Int) (v : Int) : (o.map V.int).getD (.int v) = .int (o.getD v) := by cases o <;> rfl
abbrev N_L_table : List Str := ["_law_shape_here", "_law_extra", "_law_nodes", "_law_found", "_law_each", "_law_bond_here", "_law_high", "_law_low", "_law_bound", "_law_middle", "_law_total"]
theorem sc_L_table : FnScope N_L_table ["_law_shape_here", "_law_extra"] (defScope s_L_table) := ⟨rfl, rfl, rfl, by decide +kernel, rfl, by decide +kernel, by decide +kernel⟩
def sp_table : Sp := fun vs H Q _ => ∃ p pe, ∃ N : List Str, ∃ R, vs = [.ref p, .ref pe] ∧ ShapeAt H p N R ∧ FormOk N R ∧ H pe = some (.tup []) ∧ ∀ H' D, Same H H' → H D = none → DT H' D (tabF N R) 1000 → Q (.ref D) H'
theorem c_L_table (S : Sys K mg) : C8.Cal P w K mg base 2 "_law_table" sp_table [] := by
  refine calD S.f_D_L_table S.g_L_table sc_L_table (fun _ _ _ _ _ _ us hl => match us, hl with | [_, _], _ => rfl) ?_ ?_
  · rintro vs H Q E ⟨_, _, _, _, rfl, _⟩
    rfl
  · rintro cdv A outer s H vs Q E hr ⟨p, pe, N, R, rfl, ⟨pf, pr, as, h1, h2, h3, h4⟩, ok, he, q⟩
    refine ⟨_, pss_cons (ps_set (i := 2) sc_L_table.nd rfl (Or.inl rfl) (pe_op (op_catAC (K := K) rfl) (pe_tup (pa_cons pe_str pa_nil)) (pe_ix (ix_tupC (K := K) rfl) (pv 0) pe_int (fun _ _ => rfl))))
      (pss_cons (ps_set (i := 3) sc_L_table.nd rfl (Or.inl rfl) (pe_callTy (call_dictT (K := K) rfl rfl hr.units) (by rfl) S.n_dict (by decide +kernel) (pa_cons (pe_lc (own := [("_law_each", 4)]) (g := gName 4) (tt := tYes) rfl sc_L_table.nd (pi_tupC (K := K) rfl (pv 2)) (blkOk_by (N := N_L_table) (sc := defScope s_L_table) (by decide +kernel)) (fun _ _ _ _ _ => (pg_name (i := 4) sc_L_table.nd rfl (Or.inl rfl))) (fun _ _ _ _ _ => pts_nil) (fun _ _ _ _ _ => (pe_tup (pa_cons (pe_tup (pa_cons (pv 4) (pa_cons (pv 4) pa_nil))) (pa_cons pe_int pa_nil))))) pa_nil)))
      (pss_cons (ps_for PassesOwn.never rfl (pi_tupC (K := K) rfl (pe_op (op_catAC (K := K) rfl) (pe_ix (ix_tupC (K := K) rfl) (pv 0) pe_int (fun _ _ => rfl)) (pv 1))) (pg_name (i := 5) sc_L_table.nd rfl (Or.inl rfl))
        (pss_cons (ps_asg (C8.pe_c (c_L_ends (K := K) S) hr (by decide) rfl (pa_cons (pv 5) pa_nil)) (pg_tupC (K := K) rfl rfl (pgs_cons (pg_name (i := 6) sc_L_table.nd rfl (Or.inl rfl)) (pgs_cons (pg_name (i := 7) sc_L_table.nd rfl (Or.inl rfl)) (pgs_cons (pg_name (i := 8) sc_L_table.nd rfl (Or.inl rfl)) pgs_nil)))))
      (pss_one (ps_dput (hu_of hr) (pv 3) (pe_tup (pa_cons (pv 6) (pa_cons (pv 7) pa_nil))) (pe_callB (call_min2 rfl) (by rfl) S.n_min (by decide +kernel) (pa_cons (pv 8) (pa_cons (pe_dget2 (hu_of hr) (pv 3) (pe_tup (pa_cons (pv 6) (pa_cons (pv 7) pa_nil))) (pv 8) ⟨rfl, rfl, rfl, rfl⟩) pa_nil))) rfl))))
      (pss_cons (ps_for PassesOwn.never rfl (pi_tupC (K := K) rfl (pv 2)) (pg_name (i := 9) sc_L_table.nd rfl (Or.inl rfl))
        (pss_one (ps_for PassesOwn.never rfl (pi_tupC (K := K) rfl (pv 2)) (pg_name (i := 6) sc_L_table.nd rfl (Or.inl rfl))
        (pss_one (ps_for PassesOwn.never rfl (pi_tupC (K := K) rfl (pv 2)) (pg_name (i := 7) sc_L_table.nd rfl (Or.inl rfl))
        (pss_one (ps_if (PW.pt (pw_and (pt_cmp (pc_din (hu_of hr) (pe_tup (pa_cons (pv 6) (pa_cons (pv 9) pa_nil))) (pv 3))) (pw_and1 (pt_cmp (pc_din (hu_of hr) (pe_tup (pa_cons (pv 9) (pa_cons (pv 7) pa_nil))) (pv 3)))))) (pss_cons (ps_set (i := 10) sc_L_table.nd rfl (Or.inl rfl) (pe_op op_add (pe_dget (hu_of hr) (pv 3) (pe_tup (pa_cons (pv 6) (pa_cons (pv 9) pa_nil))) (fun _ _ => rfl)) (pe_dget (hu_of hr) (pv 3) (pe_tup (pa_cons (pv 9) (pa_cons (pv 7) pa_nil))) (fun _ _ => rfl))))
      (pss_one (ps_dput (hu_of hr) (pv 3) (pe_tup (pa_cons (pv 6) (pa_cons (pv 7) pa_nil))) (pe_callB (call_min2 rfl) (by rfl) S.n_min (by decide +kernel) (pa_cons (pv 10) (pa_cons (pe_dget2 (hu_of hr) (pv 3) (pe_tup (pa_cons (pv 6) (pa_cons (pv 7) pa_nil))) (pv 10) ⟨rfl, rfl, rfl, rfl⟩) pa_nil))) rfl))) pss_nil)))))))
      (pss_one (ps_ret (pv 3)))))), ?_⟩
    have n5 := ok.n5
    walk_at "go"
    refine ⟨szc rfl, fun p1 hp1 => ?_⟩
    have s1 : Same H (upd H p1 (.tup [.str (Str.ofString "")])) := same_new hp1
    have e1 : upd H p1 (.tup [.str (Str.ofString "")]) p1 = some (.tup [.str eS]) := upd_same
    generalize upd H p1 (.tup [.str (Str.ofString "")]) = H1 at e1 s1
    have g1 := s1 _ _ h1
    have g2 := s1 _ _ h2
    walk_at "go"
    refine rd_catT e1 g2 (sz (by simp; omega)) fun pn H2 s2 e2 => ?_
    have e2 : H2 pn = some (.tup ((eS :: N).map V.str)) := e2
    have s02 := Same.trans s1 s2
    walk_at "go"
    refine lcW (n := (eS :: N).length) (G := fun H => SqT K H pn ((eS :: N).map V.str)) (Y := YAt ((eS :: N).map V.str)) (List.length_map (as := eS :: N) V.str ▸ walk_tup) (fun j acc H3 => ∃ ps : List Addr, acc = ps.map V.ref ∧ Paired (fun p (kv : List Key × V) => ∃ b, H3 p = some (.tup [.ref b, kv.2]) ∧ H3 b = some (.tup (kv.1.map kV))) ps (((eS :: N).take j).map fun e => (keyT e e, V.int 0)))
      (fun _ _ _ _ t ⟨ps, a, b⟩ => ⟨ps, a, L2.Paired.mapP b fun _ _ ⟨b, c, d⟩ => ⟨b, t _ _ c, t _ _ d⟩⟩) ⟨[], rfl, .nil⟩ (by simp; omega) (fun H3 s => .inl (.inl (s _ _ e2))) (fun j x acc H3 H3' hj s f _ hY Qy Qn hQ _ => ?_) fun L H3 acc hL s e3 f _ => ?_
    · obtain ⟨rfl, hx⟩ := hY
      obtain ⟨z, rfl, hz, _⟩ := get_names hx
      obtain ⟨ps, rfl, pp⟩ := f
      walk_at "go"
      refine ⟨szc rfl, fun p4 hp4 => ?_⟩
      have s4 := same_new (o := .tup [.str z, .str z]) hp4
      have e4 : upd H3' p4 (.tup [.str z, .str z]) p4 = some (.tup [.str z, .str z]) := upd_same
      generalize upd H3' p4 (.tup [.str z, .str z]) = H4 at s4 e4
      walk_at "go"
      refine ⟨szc rfl, fun p5 hp5 => ?_⟩
      have s5 := same_new (o := .tup [.ref p4, .int 0]) hp5
      refine hQ _ _ (Same.trans s4 s5) ⟨ps ++ [p5], by rw [List.map_append] <;> rfl, ?_⟩
      rw [List.take_add_one, hz]
      show Paired _ _ (((eS :: N).take j ++ [z]).map _)
      rw [List.map_append]
      refine Paired.snoc (L2.Paired.mapP pp fun _ _ ⟨b, c, d⟩ => ⟨b, (Same.trans s4 s5) _ _ c, (Same.trans s4 s5) _ _ d⟩) ⟨p4, upd_same, s5 _ _ e4⟩
    · obtain ⟨ps, rfl, pp⟩ := f
      rw [List.take_length] at pp
      walk_at "go"
      refine ⟨L, ps, _, rfl, .inl (.inl e3), pp, fun D hD => ?_⟩
      have sD : Same H (upd H3 D (.dT (mergeT [] ((eS :: N).map fun e => (keyT e e, V.int 0))))) := same_new2 (Same.trans s02 s) hD
      have HD : H D = none := Same.none (Same.trans s02 s) hD
      have dt : DT (upd H3 D (.dT (mergeT [] ((eS :: N).map fun e => (keyT e e, V.int 0))))) D (t0 (eS :: N)) 6 := ⟨_, upd_same, Tab.merge0 (eS :: N) Tab.nil, Nat.le_trans (length_mergeT _ _) (by simp; omega)⟩
      have en : upd H3 D (.dT (mergeT [] ((eS :: N).map fun e => (keyT e e, V.int 0)))) pn = some (.tup ((eS :: N).map V.str)) := same_new hD _ _ (s _ _ e2)
      generalize upd H3 D (.dT (mergeT [] ((eS :: N).map fun e => (keyT e e, V.int 0)))) = H4 at sD dt en
      have i1 := sD _ _ h1
      have i3 := sD _ _ h3
      have ie := sD _ _ he
      walk_at "go"
      refine rd_catT i3 ie (by rw [List.length_map, List.length_nil, h4.1]; exact sz (by have := ok.r9; omega)) fun pr2 H5 s5 e5 => ?_
      rw [List.append_nil] at e5
      have sD5 := Same.trans sD s5
      have dt5 := dt.same s5
      have en5 := s5 _ _ en
      have ll : (as.map V.ref).length = R.length := by rw [List.length_map, h4.1]
      have nl : (eS :: N).length ≤ 6 := by simp; omega
      walk_at "go"
      refine forW (n := R.length) (G := fun H => SqT K H pr2 (as.map V.ref)) (Y := YAt (as.map V.ref)) (ll ▸ walk_tup) (fun j σ H6 => ∃ x5 x6 x7 x8 x9 x10, σ = [some (.ref p), some (.ref pe), some (.ref pn), some (.ref D), none, x5, x6, x7, x8, x9, x10] ∧ Same H H6 ∧ H6 pr2 = some (.tup (as.map V.ref)) ∧ H6 pn = some (.tup ((eS :: N).map V.str)) ∧ DT H6 D (t1 (R.take j) (t0 (eS :: N))) (6 + j))
        ⟨_, _, _, _, _, _, rfl, sD5, e5, en5, dt5⟩ (fun _ _ _ _ ⟨_, _, _, _, _, _, _, _, e, _⟩ => .inl (.inl e)) (fun j x σ H6 H6' hj ⟨x5, x6, x7, x8, x9, x10, eσ, s6, e6, en6, dt6⟩ hY => ?_) fun σ H6 ⟨x5, x6, x7, x8, x9, x10, eσ, s6, e6, en6, dt6⟩ => ?_
      · obtain ⟨rfl, hx⟩ := hY
        obtain ⟨b, r, rfl, hb, hrr, hat⟩ := (h4.tk (Same.tk s6)).get hx
        subst eσ
        walk_at "go"
        refine ⟨b, r, rfl, hat, fun H7 p7 s7 e7 => ?_⟩
        unfold endsL at e7
        have dt7 := dt6.same s7
        walk_at "go"
        refine ⟨D, rfl, dt7.isD, ?_⟩
        walk_at "go"
        refine ⟨szc rfl, fun p8 hp8 => ?_⟩
        have s8 := same_new (o := .tup [.str r.hi, .str r.lo]) hp8
        have e8 : upd H7 p8 (.tup [.str r.hi, .str r.lo]) p8 = some (.tup [.str r.hi, .str r.lo]) := upd_same
        have dt8 := dt7.same s8
        generalize upd H7 p8 (.tup [.str r.hi, .str r.lo]) = H8 at s8 e8 dt8
        walk_at "go"
        refine ⟨_, dt8.get e8, ?_⟩
        rw [optD]
        walk_at "go"
        refine ⟨szc rfl, fun p9 hp9 => ?_⟩
        have s9 := same_new (o := .tup [.str r.hi, .str r.lo]) hp9
        have e9 : upd H8 p9 (.tup [.str r.hi, .str r.lo]) p9 = some (.tup [.str r.hi, .str r.lo]) := upd_same
        have dt9 := dt8.same s9
        have s89 := Same.trans s7 (Same.trans s8 s9)
        have s09 := Same.trans s6 s89
        generalize upd H8 p9 (.tup [.str r.hi, .str r.lo]) = H9 at s9 e9 dt9 s89 s09
        have HD0 := HD
        obtain ⟨H10, dp, kp, dt10⟩ := dt9.put (v := mn r.bd ((t1 (R.take j) (t0 (eS :: N)) r.hi r.lo).getD r.bd)) e9 (by have := ok.r9; omega)
        refine ⟨D, H10, rfl, dp, ?_⟩
        have nD : pn ≠ D := fun z => by
          obtain ⟨_, e, _⟩ := dt6
          rw [← z, en6] at e
          cases e
        have nD2 : pr2 ≠ D := fun z => by
          obtain ⟨_, e, _⟩ := dt6
          rw [← z, e6] at e
          cases e
        refine ⟨_, _, _, _, _, _, rfl, same_kp s09 HD kp, kp _ _ (s89 _ _ e6) nD2, kp _ _ (s89 _ _ en6) nD, ?_⟩
        rw [List.take_add_one, hrr]
        show DT H10 D (t1 (R.take j ++ [r]) _) _
        rw [t1, List.foldl_append]
        exact dt10
      · subst eσ
        rw [List.take_length] at dt6
        have dt6 := dt6.le (show 6 + R.length ≤ 15 by have := ok.r9; omega)
        have nD : ∀ {H7 : Hp} {T : TF} {c : Nat}, DT H7 D T c → H7 pn = some (.tup ((eS :: N).map V.str)) → pn ≠ D := fun dt e z => by
          obtain ⟨_, e', _⟩ := dt
          rw [← z, e] at e'
          cases e'
        have mono : ∀ {j : Nat} {z : Str}, (eS :: N)[j]? = some z → (eS :: N).take (j + 1) = (eS :: N).take j ++ [z] := fun {j z} h => by
          rw [List.take_add_one, h] <;> rfl
        let T1 := t1 R (t0 (eS :: N))
        walk_at "go"
        refine forW (n := (eS :: N).length) (G := fun H => SqT K H pn ((eS :: N).map V.str)) (Y := YAt ((eS :: N).map V.str)) (List.length_map (as := eS :: N) V.str ▸ walk_tup) (fun i σ H6 => ∃ x5 x6 x7 x8 x9 x10, σ = [some (.ref p), some (.ref pe), some (.ref pn), some (.ref D), none, x5, x6, x7, x8, x9, x10] ∧ Same H H6 ∧ H6 pn = some (.tup ((eS :: N).map V.str)) ∧ DT H6 D (allT (eS :: N) ((eS :: N).take i) T1) (15 + 36 * i))
          ⟨_, _, _, _, _, _, rfl, s6, en6, dt6⟩ (fun _ _ _ _ ⟨_, _, _, _, _, _, _, _, e, _⟩ => .inl (.inl e)) (fun i x σ H7 H7' hi ⟨x5, x6, x7, x8, x9, x10, eσ, s7, en7, dt7⟩ hY => ?_) fun σ H7 ⟨x5, x6, x7, x8, x9, x10, eσ, s7, en7, dt7⟩ => ?_
        · obtain ⟨rfl, hx⟩ := hY
          obtain ⟨m, rfl, hm, _⟩ := get_names hx
          subst eσ
          let T2 := allT (eS :: N) ((eS :: N).take i) T1
          walk_at "go"
          refine forW (n := (eS :: N).length) (G := fun H => SqT K H pn ((eS :: N).map V.str)) (Y := YAt ((eS :: N).map V.str)) (List.length_map (as := eS :: N) V.str ▸ walk_tup) (fun j σ H6 => ∃ x5 x6 x7 x8 x10, σ = [some (.ref p), some (.ref pe), some (.ref pn), some (.ref D), none, x5, x6, x7, x8, some (.str m), x10] ∧ Same H H6 ∧ H6 pn = some (.tup ((eS :: N).map V.str)) ∧ DT H6 D (midT m (eS :: N) ((eS :: N).take j) T2) (15 + 36 * i + 6 * j))
            ⟨_, _, _, _, _, rfl, s7, en7, dt7⟩ (fun _ _ _ _ ⟨_, _, _, _, _, _, _, e, _⟩ => .inl (.inl e)) (fun j x σ H8 H8' hj ⟨x5, x6, x7, x8, x10, eσ, s8, en8, dt8⟩ hY => ?_) fun σ H8 ⟨x5, x6, x7, x8, x10, eσ, s8, en8, dt8⟩ => ?_
          · obtain ⟨rfl, hx⟩ := hY
            obtain ⟨h, rfl, hh, _⟩ := get_names hx
            subst eσ
            let T3 := midT m (eS :: N) ((eS :: N).take j) T2
            walk_at "go"
            refine forW (n := (eS :: N).length) (G := fun H => SqT K H pn ((eS :: N).map V.str)) (Y := YAt ((eS :: N).map V.str)) (List.length_map (as := eS :: N) V.str ▸ walk_tup) (fun k σ H6 => ∃ x5 x7 x8 x10, σ = [some (.ref p), some (.ref pe), some (.ref pn), some (.ref D), none, x5, some (.str h), x7, x8, some (.str m), x10] ∧ Same H H6 ∧ H6 pn = some (.tup ((eS :: N).map V.str)) ∧ DT H6 D (rowT m h ((eS :: N).take k) T3) (15 + 36 * i + 6 * j + k))
              ⟨_, _, _, _, rfl, s8, en8, dt8⟩ (fun _ _ _ _ ⟨_, _, _, _, _, _, e, _⟩ => .inl (.inl e)) (fun k x σ H9 H9' hk ⟨x5, x7, x8, x10, eσ, s9, en9, dt9⟩ hY => ?_) fun σ H9 ⟨x5, x7, x8, x10, eσ, s9, en9, dt9⟩ => ?_
            · obtain ⟨rfl, hx⟩ := hY
              obtain ⟨l, rfl, hl, _⟩ := get_names hx
              subst eσ
              have rT : rowT m h ((eS :: N).take (k + 1)) T3 = stepT (rowT m h ((eS :: N).take k) T3) m h l := by
                rw [mono hl, rowT, List.foldl_append] <;> rfl
              rw [rT]
              generalize rowT m h ((eS :: N).take k) T3 = T4 at dt9 ⊢
              walk_at "go"
              refine ⟨szc rfl, fun q1 hq1 => ?_⟩
              have sHA : Same H9' (upd H9' q1 (.tup [.str h, .str m])) := same_new hq1
              have eHA : upd H9' q1 (.tup [.str h, .str m]) q1 = some (.tup [.str h, .str m]) := upd_same
              generalize upd H9' q1 (.tup [.str h, .str m]) = HA at sHA eHA
              walk_at "go"
              refine ⟨D, _, rfl, (dt9.same sHA).get eHA, ?_⟩
              cases hu : T4 h m with
              | none =>
                have eT : stepT T4 m h l = T4 := by
                  unfold stepT
                  rw [hu]
                rw [eT]
                walk_at "go"
                exact ⟨_, _, _, _, rfl, Same.trans s9 sHA, sHA _ _ en9, (dt9.same sHA).le (by omega)⟩
              | some u =>
                walk_at "go"
                refine ⟨szc rfl, fun q2 hq2 => ?_⟩
                have sHB : Same H9' (upd HA q2 (.tup [.str m, .str l])) := same_new2 sHA hq2
                have eHB : upd HA q2 (.tup [.str m, .str l]) q2 = some (.tup [.str m, .str l]) := upd_same
                generalize upd HA q2 (.tup [.str m, .str l]) = HB at sHB eHB
                walk_at "go"
                refine ⟨D, _, rfl, (dt9.same sHB).get eHB, ?_⟩
                cases hv : T4 m l with
                | none =>
                  have eT : stepT T4 m h l = T4 := by
                    unfold stepT
                    rw [hu, hv]
                  rw [eT]
                  walk_at "go"
                  exact ⟨_, _, _, _, rfl, Same.trans s9 sHB, sHB _ _ en9, (dt9.same sHB).le (by omega)⟩
                | some v =>
                  have eT : stepT T4 m h l = relaxT T4 h l (u + v) := by
                    unfold stepT
                    rw [hu, hv]
                  rw [eT]
                  walk_at "go"
                  refine ⟨szc rfl, fun q3 hq3 => ?_⟩
                  have sHC : Same H9' (upd HB q3 (.tup [.str h, .str m])) := same_new2 sHB hq3
                  have eHC : upd HB q3 (.tup [.str h, .str m]) q3 = some (.tup [.str h, .str m]) := upd_same
                  generalize upd HB q3 (.tup [.str h, .str m]) = HC at sHC eHC
                  have gC := (dt9.same sHC).get eHC
                  rw [hu] at gC
                  walk_at "go"
                  refine ⟨D, _, rfl, gC, ?_⟩
                  walk_at "go"
                  refine ⟨szc rfl, fun q4 hq4 => ?_⟩
                  have sHE : Same H9' (upd HC q4 (.tup [.str m, .str l])) := same_new2 sHC hq4
                  have eHE : upd HC q4 (.tup [.str m, .str l]) q4 = some (.tup [.str m, .str l]) := upd_same
                  generalize upd HC q4 (.tup [.str m, .str l]) = HE at sHE eHE
                  have gE := (dt9.same sHE).get eHE
                  rw [hv] at gE
                  refine ⟨D, _, rfl, gE, ?_⟩
                  walk_at "go"
                  refine ⟨D, rfl, (dt9.same sHE).isD, ?_⟩
                  walk_at "go"
                  refine ⟨szc rfl, fun q5 hq5 => ?_⟩
                  have sHF : Same H9' (upd HE q5 (.tup [.str h, .str l])) := same_new2 sHE hq5
                  have eHF : upd HE q5 (.tup [.str h, .str l]) q5 = some (.tup [.str h, .str l]) := upd_same
                  generalize upd HE q5 (.tup [.str h, .str l]) = HF at sHF eHF
                  walk_at "go"
                  refine ⟨_, (dt9.same sHF).get eHF, ?_⟩
                  rw [optD]
                  walk_at "go"
                  refine ⟨szc rfl, fun q6 hq6 => ?_⟩
                  have sHG : Same H9' (upd HF q6 (.tup [.str h, .str l])) := same_new2 sHF hq6
                  have eHG : upd HF q6 (.tup [.str h, .str l]) q6 = some (.tup [.str h, .str l]) := upd_same
                  generalize upd HF q6 (.tup [.str h, .str l]) = HG at sHG eHG
                  obtain ⟨HI, dp, kp, dtI⟩ := (dt9.same sHG).put (v := mn (u + v) ((T4 h l).getD (u + v))) eHG (by omega)
                  refine ⟨D, HI, rfl, dp, ?_⟩
                  exact ⟨_, _, _, _, rfl, same_kp (Same.trans s9 sHG) HD kp, kp _ _ (sHG _ _ en9) (nD dt9 en9), dtI⟩
            · subst eσ
              rw [List.take_length] at dt9
              refine ⟨_, _, _, _, _, rfl, s9, en9, ?_⟩
              rw [mono hh, midT, List.foldl_append]
              exact dt9.le (by omega)
          · subst eσ
            rw [List.take_length] at dt8
            refine ⟨_, _, _, _, _, _, rfl, s8, en8, ?_⟩
            rw [mono hm, allT, List.foldl_append]
            exact dt8.le (by omega)
        · subst eσ
          rw [List.take_length] at dt7
          walk_at "go"
          exact q _ _ s7 HD (dt7.le (by omega))
end
end K59
/-! K59L8 -/
set_option Elab.async false
set_option linter.all false
set_option maxRecDepth 100000
set_option maxHeartbeats 4000000
namespace K59
open PySem PySem.W PySem.Calls PySem.Spec PyProof.Rows L2
local macro_rules | `(tactic| walk_at "hp") => `(tactic| first
  | assumption
  | exact upd_same
  | (refine same_new (by assumption) _ _ ?_; walk_at "hp")
  | (refine (by assumption : Same _ _) _ _ ?_; walk_at "hp")
  | (refine FK.tk (by assumption) (by assumption) _ _ ?_; walk_at "hp"))
local macro_rules | `(tactic| walk_at "sq") => `(tactic| first
  | assumption
  | exact FrzT.sq (by assumption)
  | (refine sqt_new (by assumption) ?_; walk_at "sq")
  | (refine sqt_same ?_ (by assumption); walk_at "sq"))
local macro_rules | `(tactic| walk_at "fz") => `(tactic| first
  | assumption
  | (refine frz_new (by assumption) ?_; walk_at "fz")
  | (refine FrzT.same ?_ (by assumption); walk_at "fz"))
local macro_rules | `(tactic| walk_at "ic") => `(tactic| first
  | ((with_reducible show (0 : Int) < _); decide)
  | exact Or.inl ⟨by decide, by decide⟩
  | exact Or.inr ⟨by decide, by decide⟩
  | exact (show (0 : Int) < _ ∧ _ < (1073741824 : Int) from ⟨by decide, by decide⟩)
  | exact (show (0 : Int) ≤ _ ∧ _ ≤ (1000000 : Int) ∧ Int.natAbs _ < 2 ^ 64 from ⟨by decide, by decide, by decide⟩)
  | exact (⟨by decide, by decide, by decide⟩ : _ ∧ _ ∧ _))
local macro_rules | `(tactic| walk_at "st") => `(tactic| first
  | with_reducible refine rd_var rfl ?_
  | with_reducible refine rd_c ?_
  | with_reducible refine rd_cons ?_
  | with_reducible refine rd_nil ?_
  | with_reducible refine rd_op ?_
  | with_reducible refine rd_cb ?_
  | with_reducible refine rd_call ?_
  | with_reducible refine rd_test ?_
  | with_reducible refine rd_B ?_
  | with_reducible refine rd_bl ?_
  | with_reducible refine rd_un ?_
  | with_reducible refine rd_and ?_
  | with_reducible refine rd_or ?_
  | with_reducible refine rd_not ?_
  | with_reducible refine rd_andV ?_
  | with_reducible refine rd_orV ?_
  | with_reducible refine rd_notV ?_
  | with_reducible refine rd_if ?_
  | with_reducible refine rd_chain ?_
  | with_reducible refine rd_I0 ?_
  | with_reducible refine rd_U ?_
  | with_reducible refine rd_eqI ?_
  | with_reducible refine rd_neI ?_
  | with_reducible refine rd_eqS ?_
  | with_reducible refine rd_neS ?_
  | with_reducible refine rd_nn ?_
  | with_reducible refine rd_asg ?_
  | with_reducible refine rd_gname ?_
  | with_reducible refine rd_seq ?_
  | with_reducible refine rd_ifS ?_
  | with_reducible refine rd_ret ?_
  | with_reducible refine rd_next ?_
  | with_reducible refine rd_cont ?_
  | with_reducible refine rd_drop ?_
  | with_reducible refine rd_par ?_
  | with_reducible refine rd_vs2 ?_
  | with_reducible refine rd_gsub ?_
  | with_reducible refine rd_gcons ?_
  | with_reducible refine rd_gnil ?_
  | with_reducible refine rd_tup ?_
  | with_reducible refine rd_lst ?_
  | with_reducible refine rd_sl ?_
  | with_reducible refine rd_part ?_
  | with_reducible refine rd_nopart ?_
  | with_reducible refine rd_i1 ?_
  | with_reducible refine rd_bm ?_
  | with_reducible refine rd_yes ?_
  | with_reducible refine rd_lcT ?_
  | with_reducible refine rd_lcL ?_
  | with_reducible refine rd_lcR1 ?_
  | with_reducible refine rd_lcS ?_
  | with_reducible refine rd_forT ?_
  | with_reducible refine rd_forL ?_
  | with_reducible refine rd_forR1 ?_
  | with_reducible refine rd_atS ?_
  | with_reducible refine rd_forEn ?_
  | with_reducible refine rd_dget ?_
  | with_reducible refine rd_din ?_
  | with_reducible refine rd_dget2 ?_
  | with_reducible refine rd_dput ?_
  | with_reducible refine rd_disp ?_
  | with_reducible refine rd_pcons ?_
  | with_reducible refine rd_pnil ?_
  | with_reducible refine rd_dcL ?_
  | with_reducible refine rd_lcEn ?_
  | with_reducible refine rd_yS ?_
  | with_reducible refine rd_m1 ?_
  | with_reducible refine rd_meth ?_
  | with_reducible refine rd_fld ?_
  | with_reducible refine rd_sfld ?_
  | with_reducible refine rd_make ?_
  | with_reducible refine rd_fmt ?_
  | with_reducible refine rd_js ?_
  | with_reducible refine rd_js0 ?_
  | with_reducible refine iteT ?_
  | with_reducible refine iteF ?_
  | ((with_reducible refine isi_int (d := ?d1) (N := ?n1) ?h1 ?_); (case h1 => assumption))
  | ((with_reducible refine isi_bool (d := ?d1) (N := ?n1) ?h1 ?_); (case h1 => assumption))
  | ((with_reducible refine isi_str (d := ?d1) (N := ?n1) ?h1 ?_); (case h1 => assumption))
  | ((with_reducible refine isi_tuple (d := ?d1) (N := ?n1) ?h1 ?_); (case h1 => assumption))
  | with_reducible refine isi_str (N := fun _ => True) (Da.str _) ?_
  | with_reducible refine isi_int (N := fun _ => True) (Da.int _) ?_
  | with_reducible refine isi_bool (N := fun _ => True) (Da.int _) ?_
  | with_reducible refine isi_str (N := fun _ => True) (Da.int _) ?_
  | ((with_reducible show (wipe _ _ = wipe _ _) ∧ _); refine ⟨rfl, ?_⟩)
  | ((with_reducible show Ends.nx _ _ _); dsimp only)
  | ((with_reducible show Ends.rt _ _ _); dsimp only)
  | ((with_reducible show Ends.ct _ _ _); dsimp only)
  | ((with_reducible refine rd_ixT (xs := ?x1) (v := ?v1) ?h1 ?e1 ?_); (case h1 => walk_at "hp"); (case e1 => rfl))
  | ((with_reducible refine rd_ixL (xs := ?x1) (v := ?v1) ?h1 ?e1 ?_); (case h1 => walk_at "hp"); (case e1 => rfl))
  | ((with_reducible refine rd_lenT (xs := ?x1) ?h1 ?_); (case h1 => walk_at "hp"))
  | ((with_reducible refine rd_lenL (xs := ?x1) ?h1 ?_); (case h1 => walk_at "hp"))
  | ((with_reducible refine rd_tupOf (xs := ?x1) ?h1 ?_); (case h1 => walk_at "hp"))
  | ((with_reducible refine rd_all (bs := ?x1) ?h1 ?_); (case h1 => walk_at "hp"))
  | ((with_reducible refine rd_atT (xs := ?x1) ?h1 ?_); (case h1 => walk_at "hp"))
  | ((with_reducible refine rd_atL (xs := ?x1) ?h1 ?_); (case h1 => walk_at "hp"))
  | ((with_reducible refine rd_gtup (xs := ?x1) ?h1 ?e1 ?_); (case h1 => walk_at "hp"); (case e1 => rfl))
  | ((with_reducible refine rd_atEn (xs := ?x1) ?h1 ?_); (case h1 => walk_at "hp"))
  | ((with_reducible refine rd_slT (xs := ?x1) ?h1 ?_); (case h1 => walk_at "hp"))
  | ((with_reducible refine rd_slL (xs := ?x1) ?h1 ?_); (case h1 => walk_at "hp"))
  | ((with_reducible refine rd_inN (N := ?x1) ?h1 ?_); (case h1 => walk_at "hp"))
  | ((with_reducible refine rd_inL (N := ?x1) ?h1 ?_); (case h1 => walk_at "hp"))
  | ((with_reducible refine rd_notInN (N := ?x1) ?h1 ?_); (case h1 => walk_at "hp"))
  | ((with_reducible refine rd_notInL (N := ?x1) ?h1 ?_); (case h1 => walk_at "hp"))
  | with_reducible refine rd_tm ?_
  | ((with_reducible refine rd_isF (xs := ?x1) ?h1 ?_); (case h1 => walk_at "fz"))
  | ((with_reducible refine rd_lenTq (xs := ?x1) ?h1 ?_); (case h1 => walk_at "sq"))
  | ((with_reducible refine rd_atTq (xs := ?x1) ?h1 ?_); (case h1 => walk_at "sq"))
  | ((with_reducible refine rd_atEnq (xs := ?x1) ?h1 ?_); (case h1 => walk_at "sq"))
  | ((with_reducible refine rd_slTq (xs := ?x1) ?h1 ?_); (case h1 => walk_at "sq"))
  | ((with_reducible refine rd_inNq (N := ?x1) ?h1 ?_); (case h1 => walk_at "sq"))
  | ((with_reducible refine rd_setL (xs := ?x1) (j := ?j1) ?h1 ?e1 ?_); (case h1 => walk_at "hp"); (case e1 => rfl))
  | with_reducible refine rd_int1 ?_
  | with_reducible refine rd_x1 ?_
  | with_reducible refine rd_x2 ?_
  | ((with_reducible refine rd_tyL (xs := ?x1) ?h1 ?_); (case h1 => walk_at "hp"))
  | ((with_reducible refine rd_ixsL (xs := ?x1) (v := ?v1) ?h1 ?e1 ?_); (case h1 => walk_at "hp"); (case e1 => rfl))
  | ((with_reducible refine rd_ixsT (xs := ?x1) (v := ?v1) ?h1 ?e1 ?_); (case h1 => walk_at "hp"); (case e1 => rfl))
  | ((with_reducible refine rd_I ?c1 ?_); (case c1 => walk_at "ic"))
  | ((with_reducible refine if_t ?hb1 ?_); (case hb1 => rfl))
  | ((with_reducible refine if_f ?hb1 ?_); (case hb1 => rfl)))
local macro_rules | `(tactic| walk_at "go") => `(tactic| repeat (first | walk_at "st" | dsimp only))
section
variable {P : Program} {w : World} {K : Frag} {mg : Str → Option Value} {base : Heap}

abbrev N_L_has : List Str := ["_law_shape_here", "_law_table_here", "_law_each"]
theorem sc_L_has : FnScope N_L_has ["_law_shape_here", "_law_table_here"] (defScope s_L_has) := ⟨rfl, rfl, rfl, by decide +kernel, rfl, by decide +kernel, by decide +kernel⟩
def hasB (N : List Str) (T : TF) : Bool := (eS :: N).all fun a => decide (T a a = some 0)
def DiagS (N : List Str) (T : TF) : Prop := ∀ a ∈ eS :: N, ∃ v, T a a = some v
def sp_has : Sp := fun vs H Q _ => ∃ p D c, ∃ N : List Str, ∃ R T, vs = [.ref p, .ref D] ∧ ShapeAt H p N R ∧ N.length ≤ 5 ∧ DT H D T c ∧ DiagS N T ∧ ∀ H', Same H H' → Q (.bl (hasB N T)) H'
theorem c_L_has (S : Sys K mg) : C8.Cal P w K mg base 1 "_law_has" sp_has [] := by
  refine calD S.f_D_L_has S.g_L_has sc_L_has (fun _ _ _ _ _ _ us hl => match us, hl with | [_, _], _ => rfl) ?_ ?_
  · rintro vs H Q E ⟨_, _, _, _, _, _, rfl, _⟩
    rfl
  · rintro cdv A outer s H vs Q E hr ⟨p, D, c, N, R, T, rfl, ⟨pf, pr, as, h1, h2, h3, h4⟩, n5, dt, ds, q⟩
    refine ⟨_, pss_one (ps_ret (pe_callB (cr_allC (K := K) rfl rfl) (by rfl) S.n_all (by decide +kernel) (pa_cons (pe_lc (own := [("_law_each", 2)]) (g := gName 2) (tt := tYes) rfl sc_L_has.nd (pi_tupC (K := K) rfl (pe_op (op_catAC (K := K) rfl) (pe_tup (pa_cons pe_str pa_nil)) (pe_ix (ix_tupC (K := K) rfl) (pv 0) pe_int (fun _ _ => rfl)))) (blkOk_by (N := N_L_has) (sc := defScope s_L_has) (by decide +kernel)) (fun _ _ _ _ _ => (pg_name (i := 2) sc_L_has.nd rfl (Or.inl rfl))) (fun _ _ _ _ _ => pts_nil) (fun _ _ _ _ _ => (pe_cmpR op_eq (pe_dget (hu_of hr) (pv 1) (pe_tup (pa_cons (pv 2) (pa_cons (pv 2) pa_nil))) (fun _ _ => rfl)) pe_int (nomark _)))) pa_nil))), ?_⟩
    walk_at "go"
    refine ⟨szc rfl, fun p1 hp1 => ?_⟩
    have s1 : Same H (upd H p1 (.tup [.str (Str.ofString "")])) := same_new hp1
    have e1 : upd H p1 (.tup [.str (Str.ofString "")]) p1 = some (.tup [.str eS]) := upd_same
    generalize upd H p1 (.tup [.str (Str.ofString "")]) = H1 at e1 s1
    have g1 := s1 _ _ h1
    have g2 := s1 _ _ h2
    walk_at "go"
    refine rd_catT e1 g2 (sz (by simp; omega)) fun pn H2 s2 e2 => ?_
    have e2 : H2 pn = some (.tup ((eS :: N).map V.str)) := e2
    have s02 := Same.trans s1 s2
    have dt2 := dt.same s02
    refine ⟨pn, rfl, ⟨_, .inl (.inl e2)⟩, ?_⟩
    refine lcM (n := (eS :: N).length) (G := fun H => SqT K H pn ((eS :: N).map V.str)) (Y := YAt ((eS :: N).map V.str)) (List.length_map (as := eS :: N) V.str ▸ walk_tup) (((eS :: N).map fun a => decide (T a a = some 0)).map V.bl) (by simp) (by simp; omega) (fun H3 s => .inl (.inl (s _ _ e2))) (fun j x H3 H3' y hj s hY hy Qy Qn hQ => ?_) fun L H3 hL s e => ?_
    · obtain ⟨rfl, hx⟩ := hY
      obtain ⟨z, rfl, hz, hm⟩ := get_names hx
      rw [List.getElem?_map, List.getElem?_map, hz] at hy
      cases hy
      have dt3 := dt2.same s
      obtain ⟨v, hv⟩ := ds z hm
      walk_at "go"
      refine ⟨szc rfl, fun p4 hp4 => ?_⟩
      have s4 := same_new (o := .tup [.str z, .str z]) hp4
      have g := (dt3.same s4).get upd_same
      rw [hv] at g
      refine ⟨D, _, rfl, g, ?_⟩
      walk_at "go"
      have e : decide (v = 0) = decide (T z z = some 0) := by
        rw [hv]
        by_cases h : v = 0
        · rw [decide_eq_true h, decide_eq_true (congrArg some h)]
        · rw [decide_eq_false h, decide_eq_false fun z => h (Option.some.inj z)]
      rw [e]
      exact hQ _ s4
    · walk_at "go"
      have e3 : ((eS :: N).map fun a => decide (T a a = some 0)).all id = hasB N T := by
        rw [List.all_map] <;> rfl
      rw [e3]
      exact q _ (Same.trans s02 s)
abbrev N_L_differ : List Str := ["_law_shape_here", "_law_one", "_law_two", "_law_at"]
theorem sc_L_differ : FnScope N_L_differ ["_law_shape_here", "_law_one", "_law_two"] (defScope s_L_differ) := ⟨rfl, rfl, rfl, by decide +kernel, rfl, by decide +kernel, by decide +kernel⟩
def diffAt (ns ms : List Int) (i : Nat) : Bool := decide (ns[i]? ≠ ms[i]?)
def diffL (N : List Str) (ns ms : List Int) : List Str := ((List.range N.length).filter (diffAt ns ms)).filterMap fun (i : Nat) => N[i]?
def diffT (N : List Str) (ns ms : List Int) (j : Nat) : List Str := ((List.range j).filter (diffAt ns ms)).filterMap fun (i : Nat) => N[i]?
theorem diffT_succ {N : List Str} {ns ms : List Int} {j : Nat} {z : Str} (h : N[j]? = some z) : diffT N ns ms (j + 1) = diffT N ns ms j ++ (if diffAt ns ms j = true then [z] else []) := by
  unfold diffT
  rw [List.range_succ, List.filter_append, List.filterMap_append]
  cases hd : diffAt ns ms j <;> simp [hd, h]
theorem diffL_mem {N : List Str} {ns ms : List Int} {z : Str} : z ∈ diffL N ns ms ↔ ∃ i : Nat, N[i]? = some z ∧ ns[i]? ≠ ms[i]? := by
  unfold diffL
  rw [List.mem_filterMap]
  constructor
  · rintro ⟨i, hi, e⟩
    exact ⟨i, e, of_decide_eq_true (List.mem_filter.mp hi).2⟩
  · rintro ⟨i, e, h⟩
    exact ⟨i, List.mem_filter.mpr ⟨List.mem_range.mpr (List.getElem?_eq_some_iff.mp e).1, decide_eq_true h⟩, e⟩
def sp_differ : Sp := fun vs H Q _ => ∃ p a b, ∃ N : List Str, ∃ R, ∃ ns ms : List Int, vs = [.ref p, .ref a, .ref b] ∧ ShapeAt H p N R ∧ N.length ≤ 5 ∧ H a = some (.tup (ns.map V.int)) ∧ H b = some (.tup (ms.map V.int)) ∧ ns.length = N.length ∧ ms.length = N.length ∧
  ∀ H' q, Same H H' → H' q = some (.tup ((diffL N ns ms).map V.str)) → Q (.ref q) H'
theorem c_L_differ (S : Sys K mg) : C8.Cal P w K mg base 1 "_law_differ" sp_differ [] := by
  refine calD S.f_D_L_differ S.g_L_differ sc_L_differ (fun _ _ _ _ _ _ us hl => match us, hl with | [_, _, _], _ => rfl) ?_ ?_
  · rintro vs H Q E ⟨_, _, _, _, _, _, _, rfl, _⟩
    rfl
  · rintro cdv A outer s H vs Q E hr ⟨p, a, b, N, R, ns, ms, rfl, ⟨pf, pr, as, h1, h2, h3, h4⟩, n5, ha, hb, l1, l2, q⟩
    refine ⟨_, pss_one (ps_ret (pe_callTy (call_tuple_ofC (K := K) rfl) (by rfl) S.n_tuple (by decide +kernel) (pa_cons (pe_lc (own := [("_law_at", 3)]) (g := gName 3) rfl sc_L_differ.nd (pi_range1 (by rfl) S.n_range (pa_cons (pe_callB (call_len_seqC (K := K) rfl) (by rfl) S.n_len (by decide +kernel) (pa_cons (pv 1) pa_nil)) pa_nil)) (blkOk_by (N := N_L_differ) (sc := defScope s_L_differ) (by decide +kernel)) (fun _ _ _ _ _ => (pg_name (i := 3) sc_L_differ.nd rfl (Or.inl rfl))) (fun _ _ _ _ _ => pts_one (pt_cmpR op_ne (pe_ix (ix_tupC (K := K) rfl) (pv 1) (pv 3) (fun _ _ => rfl)) (pe_ix (ix_tupC (K := K) rfl) (pv 2) (pv 3) (fun _ _ => rfl)) (nomark _))) (fun _ _ _ _ _ => (pe_ix (ix_tupC (K := K) rfl) (pe_ix (ix_tupC (K := K) rfl) (pv 0) pe_int (fun _ _ => rfl)) (pv 3) (fun _ _ => rfl)))) pa_nil))), ?_⟩
    walk_at "go"
    rw [List.length_map, l1]
    refine ⟨by omega, by omega, ?_⟩
    refine lcW (n := N.length) walk_r0 (fun j acc _ => acc = (diffT N ns ms j).map V.str) (fun _ _ _ _ _ h => h) rfl (by omega) (fun _ _ => trivial) (fun j x acc H1 H1' hj s f _ hY Qy Qn hQ hN => ?_) fun L H1 acc hL s e f _ => ?_
    · obtain ⟨rfl, rfl⟩ := hY
      subst f
      have hn : j < ns.length := by omega
      have hm : j < ms.length := by omega
      have en : atI (ns.map V.int) (j : Int) = some (.int ns[j]) := atI_nat (by rw [List.getElem?_map, List.getElem?_eq_getElem hn] <;> rfl)
      have em : atI (ms.map V.int) (j : Int) = some (.int ms[j]) := atI_nat (by rw [List.getElem?_map, List.getElem?_eq_getElem hm] <;> rfl)
      have ez : atI (N.map V.str) (j : Int) = some (.str N[j]) := atI_nat (by rw [List.getElem?_map, List.getElem?_eq_getElem hj] <;> rfl)
      have ts := diffT_succ (ns := ns) (ms := ms) (List.getElem?_eq_getElem hj)
      have ed : diffAt ns ms j = !decide (ns[j] = ms[j]) := by
        unfold diffAt
        rw [List.getElem?_eq_getElem hn, List.getElem?_eq_getElem hm]
        by_cases g : ns[j] = ms[j]
        · rw [decide_eq_true g, decide_eq_false (by simp [g])] <;> rfl
        · rw [decide_eq_false g, decide_eq_true (by simp [g])] <;> rfl
      walk_at "go"
      refine rd_ixT (s _ _ ha) en ?_
      walk_at "go"
      refine rd_ixT (s _ _ hb) em ?_
      walk_at "go"
      refine ifb (fun h => ?_) fun h => ?_
      · walk_at "go"
        refine rd_ixT (s _ _ h2) ez ?_
        refine hQ _ _ (Same.refl _) ?_
        rw [ts, ed, if_pos h, List.map_append] <;> rfl
      · refine hN _ (Same.refl _) ?_
        rw [ts, ed, if_neg (by rw [h]; exact Bool.false_ne_true), List.append_nil]
    · subst f
      walk_at "go"
      exact fun q1 hq1 => q _ q1 (same_new2 s hq1) upd_same
abbrev N_L_with : List Str := ["_law_shape_here", "_law_fill", "_law_tag", "_law_number", "_law_at"]
theorem sc_L_with : FnScope N_L_with ["_law_shape_here", "_law_fill", "_law_tag", "_law_number"] (defScope s_L_with) := ⟨rfl, rfl, rfl, by decide +kernel, rfl, by decide +kernel, by decide +kernel⟩
def withL (N : List Str) (ns : List Int) (t : Str) (x : Int) : List Int := (List.range ns.length).map fun i => if N[i]? = some t then x else (ns[i]?).getD 0
theorem withL_len (N : List Str) (ns : List Int) (t : Str) (x : Int) : (withL N ns t x).length = ns.length := by simp [withL]
theorem withL_get {N : List Str} {ns : List Int} {t : Str} {x : Int} {i : Nat} (h : i < ns.length) : (withL N ns t x)[i]? = some (if N[i]? = some t then x else ns[i]) := by
  unfold withL
  rw [List.getElem?_map, List.getElem?_range h]
  show some (if N[i]? = some t then x else (ns[i]?).getD 0) = _
  rw [List.getElem?_eq_getElem h] <;> rfl
def sp_with : Sp := fun vs H Q _ => ∃ p a t x, ∃ N : List Str, ∃ R, ∃ ns : List Int, vs = [.ref p, .ref a, .str t, .int x] ∧ ShapeAt H p N R ∧ N.length ≤ 5 ∧ H a = some (.tup (ns.map V.int)) ∧ ns.length = N.length ∧
  ∀ H' q, Same H H' → H' q = some (.tup ((withL N ns t x).map V.int)) → Q (.ref q) H'
theorem c_L_with (S : Sys K mg) : C8.Cal P w K mg base 1 "_law_with" sp_with [] := by
  refine calD S.f_D_L_with S.g_L_with sc_L_with (fun _ _ _ _ _ _ us hl => match us, hl with | [_, _, _, _], _ => rfl) ?_ ?_
  · rintro vs H Q E ⟨_, _, _, _, _, _, _, rfl, _⟩
    rfl
  · rintro cdv A outer s H vs Q E hr ⟨p, a, t, x, N, R, ns, rfl, ⟨pf, pr, as, h1, h2, h3, h4⟩, n5, ha, l1, q⟩
    refine ⟨_, pss_one (ps_ret (pe_callTy (call_tuple_ofC (K := K) rfl) (by rfl) S.n_tuple (by decide +kernel) (pa_cons (pe_lc (own := [("_law_at", 4)]) (g := gName 4) (tt := tYes) rfl sc_L_with.nd (pi_range1 (by rfl) S.n_range (pa_cons (pe_callB (call_len_seqC (K := K) rfl) (by rfl) S.n_len (by decide +kernel) (pa_cons (pv 1) pa_nil)) pa_nil)) (blkOk_by (N := N_L_with) (sc := defScope s_L_with) (by decide +kernel)) (fun _ _ _ _ _ => (pg_name (i := 4) sc_L_with.nd rfl (Or.inl rfl))) (fun _ _ _ _ _ => pts_nil) (fun _ _ _ _ _ => (pe_ifExp (pt_cmpR op_eq (pe_ix (ix_tupC (K := K) rfl) (pe_ix (ix_tupC (K := K) rfl) (pv 0) pe_int (fun _ _ => rfl)) (pv 4) (fun _ _ => rfl)) (pv 2) (nomark _)) (pv 3) (pe_ix (ix_tupC (K := K) rfl) (pv 1) (pv 4) (fun _ _ => rfl))))) pa_nil))), ?_⟩
    walk_at "go"
    rw [List.length_map]
    refine ⟨by omega, by omega, ?_⟩
    refine lcM (n := ns.length) walk_r0 ((withL N ns t x).map V.int) (by rw [List.length_map, withL_len]) (by omega) (fun _ _ => trivial) (fun j y H1 H1' v hj s hY hy Qy Qn hQ => ?_) fun L H1 hL s e => ?_
    · obtain ⟨rfl, rfl⟩ := hY
      rw [List.getElem?_map, withL_get hj] at hy
      cases hy
      have hN : j < N.length := by omega
      have en : atI (ns.map V.int) (j : Int) = some (.int ns[j]) := atI_nat (by rw [List.getElem?_map, List.getElem?_eq_getElem hj] <;> rfl)
      have ez : atI (N.map V.str) (j : Int) = some (.str N[j]) := atI_nat (by rw [List.getElem?_map, List.getElem?_eq_getElem hN] <;> rfl)
      walk_at "go"
      refine rd_ixT (s _ _ h2) ez ?_
      walk_at "go"
      refine ifb (fun h => ?_) fun h => ?_
      · walk_at "go"
        have e := hQ _ (Same.refl H1')
        rw [if_pos (by rw [List.getElem?_eq_getElem hN, of_decide_eq_true h])] at e
        exact e
      · walk_at "go"
        refine rd_ixT (s _ _ ha) en ?_
        have e := hQ _ (Same.refl H1')
        rw [if_neg (by rw [List.getElem?_eq_getElem hN]; exact fun z => of_decide_eq_false h (Option.some.inj z))] at e
        exact e
    · walk_at "go"
      exact fun q1 hq1 => q _ q1 (same_new2 s hq1) upd_same
end
end K59
/-! K59Tab -/
set_option Elab.async false
set_option linter.all false
set_option maxRecDepth 100000
set_option maxHeartbeats 4000000
namespace K59
open PySem PySem.W PySem.Calls PySem.Spec PyProof.Rows L2

/-! ### the table, in plain Lean -/
def Le (T' T : TF) : Prop := ∀ x y v, T x y = some v → ∃ w, T' x y = some w ∧ w ≤ v
theorem Le.refl (T : TF) : Le T T := fun _ _ v h => ⟨v, h, Int.le_refl v⟩
theorem Le.trans {A B C : TF} (h : Le A B) (g : Le B C) : Le A C := fun x y v e => by
  obtain ⟨w, e1, l1⟩ := g x y v e
  obtain ⟨z, e2, l2⟩ := h x y w e1
  exact ⟨z, e2, Int.le_trans l2 l1⟩
theorem mn_le1 (i j : Int) : mn i j ≤ i := by
  unfold mn
  by_cases h : j < i
  · rw [if_pos h]
    omega
  · rw [if_neg h]
    omega
theorem mn_le2 (i j : Int) : mn i j ≤ j := by
  unfold mn
  by_cases h : j < i
  · rw [if_pos h]
    omega
  · rw [if_neg h]
    omega
theorem mn_or (i j : Int) : mn i j = i ∨ mn i j = j := by
  unfold mn
  by_cases h : j < i
  · rw [if_pos h]
    exact .inr rfl
  · rw [if_neg h]
    exact .inl rfl
theorem setT_at (T : TF) (a b : Str) (v : Int) : setT T a b v a b = some v := if_pos ⟨rfl, rfl⟩
theorem setT_ne {T : TF} {a b x y : Str} {v : Int} (h : ¬ (x = a ∧ y = b)) : setT T a b v x y = T x y := if_neg h
theorem relax_le (T : TF) (a b : Str) (v : Int) : Le (relaxT T a b v) T := fun x y u e => by
  by_cases h : x = a ∧ y = b
  · obtain ⟨rfl, rfl⟩ := h
    refine ⟨_, setT_at _ _ _ _, ?_⟩
    rw [e]
    exact mn_le2 _ _
  · exact ⟨u, (setT_ne h).trans e, Int.le_refl u⟩
theorem relax_at (T : TF) (a b : Str) (v : Int) : ∃ w, relaxT T a b v a b = some w ∧ w ≤ v := ⟨_, setT_at _ _ _ _, mn_le1 _ _⟩
theorem step_le (T : TF) (m h l : Str) : Le (stepT T m h l) T := by
  unfold stepT
  cases T h m with
  | none => exact Le.refl T
  | some u =>
    cases T m l with
    | none => exact Le.refl T
    | some v => exact relax_le T h l (u + v)
theorem fold_le {α : Type} (f : TF → α → TF) (hf : ∀ T a, Le (f T a) T) : ∀ (L : List α) (T : TF), Le (L.foldl f T) T
  | [], T => Le.refl T
  | a :: L, T => (fold_le f hf L (f T a)).trans (hf T a)
theorem row_le (m h : Str) (L : List Str) (T : TF) : Le (rowT m h L T) T := fold_le _ (fun T l => step_le T m h l) L T
theorem mid_le (m : Str) (nodes L : List Str) (T : TF) : Le (midT m nodes L T) T := fold_le _ (fun T h => row_le m h nodes T) L T
theorem all_le (nodes L : List Str) (T : TF) : Le (allT nodes L T) T := fold_le _ (fun T m => mid_le m nodes nodes T) L T
theorem t1_le (R : List Rl) (T : TF) : Le (t1 R T) T := fold_le (fun T (r : Rl) => relaxT T r.hi r.lo r.bd) (fun T r => relax_le T r.hi r.lo r.bd) R T
/-! the start -/
theorem t0_fold : ∀ (L : List Str) (T : TF) (x y : Str), (L.foldl (fun T e => setT T e e 0) T) x y = if x = y ∧ x ∈ L then some 0 else T x y
  | [], T, x, y => by
    show T x y = _
    rw [if_neg fun h => by cases h.2]
  | e :: L, T, x, y => by
    show (L.foldl (fun T e => setT T e e 0) (setT T e e 0)) x y = _
    rw [t0_fold L (setT T e e 0) x y]
    by_cases h1 : x = y ∧ x ∈ L
    · rw [if_pos h1, if_pos ⟨h1.1, List.mem_cons_of_mem _ h1.2⟩]
    · rw [if_neg h1]
      by_cases h2 : x = e ∧ y = e
      · rw [h2.1, h2.2, setT_at, if_pos ⟨rfl, List.mem_cons_self⟩]
      · rw [setT_ne h2, if_neg]
        rintro ⟨rfl, hm⟩
        rcases List.mem_cons.mp hm with h | h
        · exact h2 ⟨h, h⟩
        · exact h1 ⟨rfl, h⟩
theorem t0_eq (nodes : List Str) (x y : Str) : t0 nodes x y = if x = y ∧ x ∈ nodes then some 0 else none := t0_fold nodes _ x y
/-- bounds -/
def Bd (T : TF) (B : Int) : Prop := ∀ x y v, T x y = some v → -B ≤ v ∧ v ≤ B
theorem Bd.t0 (nodes : List Str) {B : Int} (h : 0 ≤ B) : Bd (t0 nodes) B := fun x y v e => by
  rw [t0_eq] at e
  by_cases g : x = y ∧ x ∈ nodes
  · rw [if_pos g] at e
    cases e
    omega
  · rw [if_neg g] at e
    cases e
theorem Bd.relax {T : TF} {a b : Str} {v B : Int} (h : Bd T B) (hv : -B ≤ v ∧ v ≤ B) : Bd (relaxT T a b v) B := fun x y u e => by
  by_cases g : x = a ∧ y = b
  · obtain ⟨rfl, rfl⟩ := g
    rw [relaxT, setT_at] at e
    cases e
    rcases mn_or v ((T x y).getD v) with h1 | h1
    · rw [h1]
      exact hv
    · rw [h1]
      cases hT : T x y with
      | none => exact hv
      | some z => exact h x y z hT
  · rw [relaxT, setT_ne g] at e
    exact h x y u e
theorem Bd.t1 {N : List Str} {B : Int} (hB : 1000 ≤ B) : ∀ (R : List Rl) (T : TF), (∀ r ∈ R, RlOk N r) → Bd T B → Bd (t1 R T) B
  | [], _, _, h => h
  | r :: R, T, ok, h => by
    refine Bd.t1 hB R (relaxT T r.hi r.lo r.bd) (fun x hx => ok x (List.mem_cons_of_mem _ hx)) (h.relax ?_)
    have := (ok r List.mem_cons_self).bd
    omega
theorem t1_rule : ∀ (R : List Rl) (T : TF) (r : Rl), r ∈ R → ∃ w, t1 R T r.hi r.lo = some w ∧ w ≤ r.bd
  | [], _, _, h => by cases h
  | q :: R, T, r, h => by
    show ∃ w, t1 R (relaxT T q.hi q.lo q.bd) r.hi r.lo = some w ∧ w ≤ r.bd
    rcases List.mem_cons.mp h with rfl | h
    · obtain ⟨w, e, l⟩ := relax_at T r.hi r.lo r.bd
      obtain ⟨z, e2, l2⟩ := t1_le R _ _ _ _ e
      exact ⟨z, e2, Int.le_trans l2 l⟩
    · exact t1_rule R _ r h
/-! one middle -/
structure Mid (m : Str) (T Tc : TF) : Prop where
  col : ∀ x, Tc x m = T x m
  row : ∀ y, Tc m y = T m y
  at_ : ∀ x y w, Tc x y = some w → T x y = some w ∨ ∃ u v, T x m = some u ∧ T m y = some v ∧ w = u + v
theorem Mid.refl (m : Str) (T : TF) : Mid m T T := ⟨fun _ => rfl, fun _ => rfl, fun _ _ _ e => .inl e⟩
theorem Mid.step {m : Str} {T Tc : TF} (hm : T m m = some 0) (J : Mid m T Tc) (h l : Str) : Mid m T (stepT Tc m h l) := by
  unfold stepT
  cases hu : Tc h m with
  | none => exact J
  | some u =>
    cases hv : Tc m l with
    | none => exact J
    | some v =>
      have hu' : T h m = some u := (J.col h).symm.trans hu
      have hv' : T m l = some v := (J.row l).symm.trans hv
      show Mid m T (relaxT Tc h l (u + v))
      refine ⟨fun x => ?_, fun y => ?_, fun x y w e => ?_⟩
      · by_cases g : x = h ∧ m = l
        · obtain ⟨rfl, rfl⟩ := g
          rw [hm] at hv'
          cases hv'
          rw [relaxT, setT_at, hu, hu']
          have : mn (u + 0) ((some u).getD (u + 0)) = u := by
            rw [Int.add_zero]
            rcases mn_or u u with h | h <;> exact h
          rw [this]
        · rw [relaxT, setT_ne g]
          exact J.col x
      · by_cases g : m = h ∧ y = l
        · obtain ⟨rfl, rfl⟩ := g
          rw [hm] at hu'
          cases hu'
          rw [relaxT, setT_at, hv, hv']
          have : mn (0 + v) ((some v).getD (0 + v)) = v := by
            rw [Int.zero_add]
            rcases mn_or v v with h | h <;> exact h
          rw [this]
        · rw [relaxT, setT_ne g]
          exact J.row y
      · by_cases g : x = h ∧ y = l
        · obtain ⟨rfl, rfl⟩ := g
          rw [relaxT, setT_at] at e
          cases e
          rcases mn_or (u + v) ((Tc x y).getD (u + v)) with h1 | h1
          · rw [h1]
            exact .inr ⟨u, v, hu', hv', rfl⟩
          · rw [h1]
            cases hT : Tc x y with
            | none => exact .inr ⟨u, v, hu', hv', rfl⟩
            | some z => exact J.at_ x y z hT
        · rw [relaxT, setT_ne g] at e
          exact J.at_ x y w e
theorem Mid.row_ {m : Str} {T : TF} (hm : T m m = some 0) (h : Str) : ∀ (L : List Str) (Tc : TF), Mid m T Tc → Mid m T (rowT m h L Tc)
  | [], _, J => J
  | l :: L, Tc, J => Mid.row_ hm h L (stepT Tc m h l) (J.step hm h l)
theorem Mid.mid {m : Str} {T : TF} (hm : T m m = some 0) (nodes : List Str) : ∀ (L : List Str) (Tc : TF), Mid m T Tc → Mid m T (midT m nodes L Tc)
  | [], _, J => J
  | h :: L, Tc, J => Mid.mid hm nodes L (rowT m h nodes Tc) (Mid.row_ hm h nodes Tc J)
theorem row_got {m : Str} {T : TF} (hm : T m m = some 0) {h l : Str} {u v : Int} (hu : T h m = some u) (hv : T m l = some v) : ∀ (L : List Str) (Tc : TF), Mid m T Tc → l ∈ L → ∃ w, rowT m h L Tc h l = some w ∧ w ≤ u + v
  | [], _, _, hl => by cases hl
  | k :: L, Tc, J, hl => by
    show ∃ w, rowT m h L (stepT Tc m h k) h l = some w ∧ w ≤ u + v
    rcases List.mem_cons.mp hl with rfl | hl
    · have e : stepT Tc m h l = relaxT Tc h l (u + v) := by
        unfold stepT
        rw [J.col h, hu, J.row l, hv]
      rw [e]
      obtain ⟨w, e1, l1⟩ := relax_at Tc h l (u + v)
      obtain ⟨z, e2, l2⟩ := row_le m h L _ _ _ _ e1
      exact ⟨z, e2, Int.le_trans l2 l1⟩
    · exact row_got hm hu hv L _ (J.step hm h k) hl
theorem mid_got {m : Str} {T : TF} (hm : T m m = some 0) {h l : Str} {u v : Int} (hu : T h m = some u) (hv : T m l = some v) {nodes : List Str} (hl : l ∈ nodes) : ∀ (L : List Str) (Tc : TF), Mid m T Tc → h ∈ L → ∃ w, midT m nodes L Tc h l = some w ∧ w ≤ u + v
  | [], _, _, hh => by cases hh
  | k :: L, Tc, J, hh => by
    show ∃ w, midT m nodes L (rowT m k nodes Tc) h l = some w ∧ w ≤ u + v
    rcases List.mem_cons.mp hh with rfl | hh
    · obtain ⟨w, e1, l1⟩ := row_got hm hu hv nodes Tc J hl
      obtain ⟨z, e2, l2⟩ := mid_le m nodes L _ _ _ _ e1
      exact ⟨z, e2, Int.le_trans l2 l1⟩
    · exact mid_got hm hu hv hl L _ (Mid.row_ hm k nodes Tc J) hh
/-- closed over the middles in Ks -/
def Cl (nodes Ks : List Str) (T : TF) : Prop := ∀ k ∈ Ks, ∀ a ∈ nodes, ∀ b ∈ nodes, ∀ u v, T a k = some u → T k b = some v → ∃ w, T a b = some w ∧ w ≤ u + v
theorem Cl.mid {nodes Ks : List Str} {T : TF} {m : Str} (c : Cl nodes Ks T) (hk : ∀ k ∈ Ks, k ∈ nodes) (hm : T m m = some 0) (hmn : m ∈ nodes) : Cl nodes (m :: Ks) (midT m nodes nodes T) := by
  have J := Mid.mid hm nodes nodes T (Mid.refl m T)
  have le := mid_le m nodes nodes T
  have got : ∀ {a b : Str} {u v : Int}, a ∈ nodes → b ∈ nodes → T a m = some u → T m b = some v → ∃ w, midT m nodes nodes T a b = some w ∧ w ≤ u + v := fun ha hb hu hv => mid_got hm hu hv hb nodes T (Mid.refl m T) ha
  intro k hkm a ha b hb u v hu hv
  rcases List.mem_cons.mp hkm with rfl | hkk
  · exact got ha hb ((J.col a).symm.trans hu) ((J.row b).symm.trans hv)
  · have kn := hk k hkk
    rcases J.at_ _ _ _ hu with hu1 | ⟨p, q, hp, hq, rfl⟩
    · rcases J.at_ _ _ _ hv with hv1 | ⟨r, s, hr, hs, rfl⟩
      · obtain ⟨w, e, l⟩ := c k hkk a ha b hb u v hu1 hv1
        obtain ⟨z, e2, l2⟩ := le _ _ _ e
        exact ⟨z, e2, Int.le_trans l2 l⟩
      · obtain ⟨w, e, l⟩ := c k hkk a ha m hmn u r hu1 hr
        obtain ⟨z, e2, l2⟩ := got ha hb e hs
        exact ⟨z, e2, by omega⟩
    · rcases J.at_ _ _ _ hv with hv1 | ⟨r, s, hr, hs, rfl⟩
      · obtain ⟨w, e, l⟩ := c k hkk m hmn b hb q v hq hv1
        obtain ⟨z, e2, l2⟩ := got ha hb hp e
        exact ⟨z, e2, by omega⟩
      · obtain ⟨w, e, l⟩ := c k hkk m hmn m hmn q r hq hr
        rw [hm] at e
        cases e
        obtain ⟨z, e2, l2⟩ := got ha hb hp hs
        exact ⟨z, e2, by omega⟩
theorem Bd.mid {nodes : List Str} {T : TF} {m : Str} {B : Int} (h : Bd T B) (hB : 0 ≤ B) (hm : T m m = some 0) : Bd (midT m nodes nodes T) (2 * B) := fun x y w e => by
  rcases (Mid.mid hm nodes nodes T (Mid.refl m T)).at_ _ _ _ e with h1 | ⟨u, v, h1, h2, rfl⟩
  · have := h _ _ _ h1
    omega
  · have := h _ _ _ h1
    have := h _ _ _ h2
    omega
theorem all_ok {nodes : List Str} {F : TF} (dg : ∀ a ∈ nodes, F a a = some 0) : ∀ (L Ks : List Str) (T : TF) (B : Int), allT nodes L T = F → (∀ a ∈ nodes, ∃ v, T a a = some v ∧ v ≤ 0) → (∀ k ∈ L, k ∈ nodes) → (∀ k ∈ Ks, k ∈ nodes) → 0 ≤ B → Cl nodes Ks T → Bd T B →
    (∀ k, k ∈ Ks ∨ k ∈ L → ∀ a ∈ nodes, ∀ b ∈ nodes, ∀ u v, F a k = some u → F k b = some v → ∃ w, F a b = some w ∧ w ≤ u + v) ∧ Bd F (B * 2 ^ L.length)
  | [], Ks, T, B, e, _, _, _, _, c, b => by
    have e : T = F := e
    subst e
    refine ⟨fun k hk => hk.elim (fun h => c k h) (fun h => absurd h List.not_mem_nil), ?_⟩
    show Bd T (B * 1)
    rw [Int.mul_one]
    exact b
  | m :: L, Ks, T, B, e, d, hL, hK, hB, c, b => by
    have hmn := hL m List.mem_cons_self
    have hm : T m m = some 0 := by
      obtain ⟨v, hv, l⟩ := d m hmn
      have le : Le F T := e ▸ all_le nodes (m :: L) T
      obtain ⟨w, e1, l1⟩ := le _ _ _ hv
      rw [dg m hmn] at e1
      cases e1
      have : v = 0 := by omega
      rw [hv, this]
    have le := mid_le m nodes nodes T
    obtain ⟨h1, h2⟩ := all_ok dg L (m :: Ks) (midT m nodes nodes T) (2 * B) e (fun a ha => by
      obtain ⟨v, hv, l⟩ := d a ha
      obtain ⟨w, e1, l1⟩ := le _ _ _ hv
      exact ⟨w, e1, Int.le_trans l1 l⟩) (fun k hk => hL k (List.mem_cons_of_mem _ hk)) (fun k hk => (List.mem_cons.mp hk).elim (fun z => z ▸ hmn) (hK k)) (by omega) (c.mid hK hm hmn) (b.mid hB hm)
    refine ⟨fun k hk => h1 k ?_, ?_⟩
    · rcases hk with hk | hk
      · exact .inl (List.mem_cons_of_mem _ hk)
      · rcases List.mem_cons.mp hk with rfl | hk
        · exact .inl List.mem_cons_self
        · exact .inr hk
    · have e : B * 2 ^ (m :: L).length = 2 * B * 2 ^ L.length := by
        rw [List.length_cons, Int.pow_succ, Int.mul_comm (2 ^ L.length) 2, ← Int.mul_assoc, Int.mul_comm B 2]
      rw [e]
      exact h2
structure TabOk (N : List Str) (R : List Rl) (F : TF) : Prop where
  dg : ∀ a ∈ eS :: N, F a a = some 0
  cl : ∀ k ∈ eS :: N, ∀ a ∈ eS :: N, ∀ b ∈ eS :: N, ∀ u v, F a k = some u → F k b = some v → ∃ w, F a b = some w ∧ w ≤ u + v
  rl : ∀ r ∈ R, ∃ w, F r.hi r.lo = some w ∧ w ≤ r.bd
  bd : ∀ a b v, F a b = some v → -64000 ≤ v ∧ v ≤ 64000
theorem tab_diag (N : List Str) (R : List Rl) : ∀ a ∈ eS :: N, ∃ v, tabF N R a a = some v := fun a ha => by
  have le : Le (tabF N R) (t0 (eS :: N)) := (all_le _ _ _).trans (t1_le R _)
  obtain ⟨w, e, _⟩ := le a a 0 (by rw [t0_eq, if_pos ⟨rfl, ha⟩])
  exact ⟨w, e⟩
theorem tab_ok {N : List Str} {R : List Rl} (ok : FormOk N R) (h : ∀ a ∈ eS :: N, tabF N R a a = some 0) : TabOk N R (tabF N R) := by
  have le0 : Le (t1 R (t0 (eS :: N))) (t0 (eS :: N)) := t1_le R _
  have b1 : Bd (t1 R (t0 (eS :: N))) 1000 := Bd.t1 (N := N) (by decide) R _ ok.rl (Bd.t0 _ (by decide))
  obtain ⟨h1, h2⟩ := all_ok h (eS :: N) [] (t1 R (t0 (eS :: N))) 1000 rfl (fun a ha => by
    obtain ⟨w, e, l⟩ := le0 a a 0 (by rw [t0_eq, if_pos ⟨rfl, ha⟩])
    exact ⟨w, e, l⟩) (fun k hk => hk) (fun k hk => by cases hk) (by decide) (fun k hk => by cases hk) b1
  refine ⟨h, fun k hk => h1 k (.inr hk), fun r hr => ?_, fun a b v e => ?_⟩
  · obtain ⟨w, e, l⟩ := t1_rule R (t0 (eS :: N)) r hr
    obtain ⟨z, e2, l2⟩ := all_le (eS :: N) (eS :: N) _ _ _ _ e
    exact ⟨z, e2, Int.le_trans l2 l⟩
  · have := h2 a b v e
    have hp : (2 : Int) ^ (eS :: N).length ≤ 64 := by
      have n5 := ok.n5
      have e6 : (eS :: N).length = N.length + 1 := rfl
      rw [e6]
      have : N.length = 0 ∨ N.length = 1 ∨ N.length = 2 ∨ N.length = 3 ∨ N.length = 4 ∨ N.length = 5 := by omega
      rcases this with h | h | h | h | h | h <;> rw [h] <;> decide
    omega
end K59
/-! K59L9 -/
set_option Elab.async false
set_option linter.all false
set_option maxRecDepth 100000
set_option maxHeartbeats 4000000
namespace K59
open PySem PySem.W PySem.Calls PySem.Spec PyProof.Rows L2
local macro_rules | `(tactic| walk_at "hp") => `(tactic| first
  | assumption
  | exact upd_same
  | (refine same_new (by assumption) _ _ ?_; walk_at "hp")
  | (refine (by assumption : Same _ _) _ _ ?_; walk_at "hp")
  | (refine FK.tk (by assumption) (by assumption) _ _ ?_; walk_at "hp"))
local macro_rules | `(tactic| walk_at "sq") => `(tactic| first
  | assumption
  | exact FrzT.sq (by assumption)
  | (refine sqt_new (by assumption) ?_; walk_at "sq")
  | (refine sqt_same ?_ (by assumption); walk_at "sq"))
local macro_rules | `(tactic| walk_at "fz") => `(tactic| first
  | assumption
  | (refine frz_new (by assumption) ?_; walk_at "fz")
  | (refine FrzT.same ?_ (by assumption); walk_at "fz"))
local macro_rules | `(tactic| walk_at "ic") => `(tactic| first
  | ((with_reducible show (0 : Int) < _); decide)
  | exact Or.inl ⟨by decide, by decide⟩
  | exact Or.inr ⟨by decide, by decide⟩
  | exact (show (0 : Int) < _ ∧ _ < (1073741824 : Int) from ⟨by decide, by decide⟩)
  | exact (show (0 : Int) ≤ _ ∧ _ ≤ (1000000 : Int) ∧ Int.natAbs _ < 2 ^ 64 from ⟨by decide, by decide, by decide⟩)
  | exact (⟨by decide, by decide, by decide⟩ : _ ∧ _ ∧ _))
local macro_rules | `(tactic| walk_at "st") => `(tactic| first
  | with_reducible refine rd_var rfl ?_
  | with_reducible refine rd_c ?_
  | with_reducible refine rd_cons ?_
  | with_reducible refine rd_nil ?_
  | with_reducible refine rd_op ?_
  | with_reducible refine rd_cb ?_
  | with_reducible refine rd_call ?_
  | with_reducible refine rd_test ?_
  | with_reducible refine rd_B ?_
  | with_reducible refine rd_bl ?_
  | with_reducible refine rd_un ?_
  | with_reducible refine rd_and ?_
  | with_reducible refine rd_or ?_
  | with_reducible refine rd_not ?_
  | with_reducible refine rd_andV ?_
  | with_reducible refine rd_orV ?_
  | with_reducible refine rd_notV ?_
  | with_reducible refine rd_if ?_
  | with_reducible refine rd_chain ?_
  | with_reducible refine rd_I0 ?_
  | with_reducible refine rd_U ?_
  | with_reducible refine rd_eqI ?_
  | with_reducible refine rd_neI ?_
  | with_reducible refine rd_eqS ?_
  | with_reducible refine rd_neS ?_
  | with_reducible refine rd_nn ?_
  | with_reducible refine rd_asg ?_
  | with_reducible refine rd_gname ?_
  | with_reducible refine rd_seq ?_
  | with_reducible refine rd_ifS ?_
  | with_reducible refine rd_ret ?_
  | with_reducible refine rd_next ?_
  | with_reducible refine rd_cont ?_
  | with_reducible refine rd_drop ?_
  | with_reducible refine rd_par ?_
  | with_reducible refine rd_vs2 ?_
  | with_reducible refine rd_gsub ?_
  | with_reducible refine rd_gcons ?_
  | with_reducible refine rd_gnil ?_
  | with_reducible refine rd_tup ?_
  | with_reducible refine rd_lst ?_
  | with_reducible refine rd_sl ?_
  | with_reducible refine rd_part ?_
  | with_reducible refine rd_nopart ?_
  | with_reducible refine rd_i1 ?_
  | with_reducible refine rd_bm ?_
  | with_reducible refine rd_yes ?_
  | with_reducible refine rd_lcT ?_
  | with_reducible refine rd_lcL ?_
  | with_reducible refine rd_lcR1 ?_
  | with_reducible refine rd_lcS ?_
  | with_reducible refine rd_forT ?_
  | with_reducible refine rd_forL ?_
  | with_reducible refine rd_forR1 ?_
  | with_reducible refine rd_atS ?_
  | with_reducible refine rd_forEn ?_
  | with_reducible refine rd_dget ?_
  | with_reducible refine rd_din ?_
  | with_reducible refine rd_dget2 ?_
  | with_reducible refine rd_dput ?_
  | with_reducible refine rd_disp ?_
  | with_reducible refine rd_pcons ?_
  | with_reducible refine rd_pnil ?_
  | with_reducible refine rd_dcL ?_
  | with_reducible refine rd_lcEn ?_
  | with_reducible refine rd_yS ?_
  | with_reducible refine rd_m1 ?_
  | with_reducible refine rd_meth ?_
  | with_reducible refine rd_fld ?_
  | with_reducible refine rd_sfld ?_
  | with_reducible refine rd_make ?_
  | with_reducible refine rd_fmt ?_
  | with_reducible refine rd_js ?_
  | with_reducible refine rd_js0 ?_
  | with_reducible refine iteT ?_
  | with_reducible refine iteF ?_
  | ((with_reducible refine isi_int (d := ?d1) (N := ?n1) ?h1 ?_); (case h1 => assumption))
  | ((with_reducible refine isi_bool (d := ?d1) (N := ?n1) ?h1 ?_); (case h1 => assumption))
  | ((with_reducible refine isi_str (d := ?d1) (N := ?n1) ?h1 ?_); (case h1 => assumption))
  | ((with_reducible refine isi_tuple (d := ?d1) (N := ?n1) ?h1 ?_); (case h1 => assumption))
  | with_reducible refine isi_str (N := fun _ => True) (Da.str _) ?_
  | with_reducible refine isi_int (N := fun _ => True) (Da.int _) ?_
  | with_reducible refine isi_bool (N := fun _ => True) (Da.int _) ?_
  | with_reducible refine isi_str (N := fun _ => True) (Da.int _) ?_
  | ((with_reducible show (wipe _ _ = wipe _ _) ∧ _); refine ⟨rfl, ?_⟩)
  | ((with_reducible show Ends.nx _ _ _); dsimp only)
  | ((with_reducible show Ends.rt _ _ _); dsimp only)
  | ((with_reducible show Ends.ct _ _ _); dsimp only)
  | ((with_reducible refine rd_ixT (xs := ?x1) (v := ?v1) ?h1 ?e1 ?_); (case h1 => walk_at "hp"); (case e1 => rfl))
  | ((with_reducible refine rd_ixL (xs := ?x1) (v := ?v1) ?h1 ?e1 ?_); (case h1 => walk_at "hp"); (case e1 => rfl))
  | ((with_reducible refine rd_lenT (xs := ?x1) ?h1 ?_); (case h1 => walk_at "hp"))
  | ((with_reducible refine rd_lenL (xs := ?x1) ?h1 ?_); (case h1 => walk_at "hp"))
  | ((with_reducible refine rd_tupOf (xs := ?x1) ?h1 ?_); (case h1 => walk_at "hp"))
  | ((with_reducible refine rd_all (bs := ?x1) ?h1 ?_); (case h1 => walk_at "hp"))
  | ((with_reducible refine rd_atT (xs := ?x1) ?h1 ?_); (case h1 => walk_at "hp"))
  | ((with_reducible refine rd_atL (xs := ?x1) ?h1 ?_); (case h1 => walk_at "hp"))
  | ((with_reducible refine rd_gtup (xs := ?x1) ?h1 ?e1 ?_); (case h1 => walk_at "hp"); (case e1 => rfl))
  | ((with_reducible refine rd_atEn (xs := ?x1) ?h1 ?_); (case h1 => walk_at "hp"))
  | ((with_reducible refine rd_slT (xs := ?x1) ?h1 ?_); (case h1 => walk_at "hp"))
  | ((with_reducible refine rd_slL (xs := ?x1) ?h1 ?_); (case h1 => walk_at "hp"))
  | ((with_reducible refine rd_inN (N := ?x1) ?h1 ?_); (case h1 => walk_at "hp"))
  | ((with_reducible refine rd_inL (N := ?x1) ?h1 ?_); (case h1 => walk_at "hp"))
  | ((with_reducible refine rd_notInN (N := ?x1) ?h1 ?_); (case h1 => walk_at "hp"))
  | ((with_reducible refine rd_notInL (N := ?x1) ?h1 ?_); (case h1 => walk_at "hp"))
  | with_reducible refine rd_tm ?_
  | ((with_reducible refine rd_isF (xs := ?x1) ?h1 ?_); (case h1 => walk_at "fz"))
  | ((with_reducible refine rd_lenTq (xs := ?x1) ?h1 ?_); (case h1 => walk_at "sq"))
  | ((with_reducible refine rd_atTq (xs := ?x1) ?h1 ?_); (case h1 => walk_at "sq"))
  | ((with_reducible refine rd_atEnq (xs := ?x1) ?h1 ?_); (case h1 => walk_at "sq"))
  | ((with_reducible refine rd_slTq (xs := ?x1) ?h1 ?_); (case h1 => walk_at "sq"))
  | ((with_reducible refine rd_inNq (N := ?x1) ?h1 ?_); (case h1 => walk_at "sq"))
  | ((with_reducible refine rd_setL (xs := ?x1) (j := ?j1) ?h1 ?e1 ?_); (case h1 => walk_at "hp"); (case e1 => rfl))
  | with_reducible refine rd_int1 ?_
  | with_reducible refine rd_x1 ?_
  | with_reducible refine rd_x2 ?_
  | ((with_reducible refine rd_tyL (xs := ?x1) ?h1 ?_); (case h1 => walk_at "hp"))
  | ((with_reducible refine rd_ixsL (xs := ?x1) (v := ?v1) ?h1 ?e1 ?_); (case h1 => walk_at "hp"); (case e1 => rfl))
  | ((with_reducible refine rd_ixsT (xs := ?x1) (v := ?v1) ?h1 ?e1 ?_); (case h1 => walk_at "hp"); (case e1 => rfl))
  | ((with_reducible refine rd_I ?c1 ?_); (case c1 => walk_at "ic"))
  | ((with_reducible refine if_t ?hb1 ?_); (case hb1 => rfl))
  | ((with_reducible refine if_f ?hb1 ?_); (case hb1 => rfl)))
local macro_rules | `(tactic| walk_at "go") => `(tactic| repeat (first | walk_at "st" | dsimp only))
section
variable {P : Program} {w : World} {K : Frag} {mg : Str → Option Value} {base : Heap}

abbrev N_L_full_shape : List Str := ["_law_flask_here", "_law_most", "_law_bonds_most", "_law_found", "_law_turn"]
theorem sc_L_full_shape : FnScope N_L_full_shape ["_law_flask_here", "_law_most", "_law_bonds_most"] (defScope s_L_full_shape) := ⟨rfl, rfl, rfl, by decide +kernel, rfl, by decide +kernel, by decide +kernel⟩
def sp_full : Sp := fun vs H Q _ => ∃ F, vs = [.ref F, .int 5, .int 9] ∧ Fl H F ∧ ∀ H' q p D, ∀ N : List Str, ∀ R : List Rl, FK F H H' → H' q = some (.tup [.ref p, .ref D]) → ShapeAt H' p N R → FormOk N R → DT H' D (tabF N R) 1000 → Q (.ref q) H'
theorem c_L_full_shape (S : Sys K mg) : C8.Cal P w K mg base 5 "_law_full_shape" sp_full [] := by
  refine calD S.f_D_L_full_shape S.g_L_full_shape sc_L_full_shape (fun _ _ _ _ _ _ us hl => match us, hl with | [_, _, _], _ => rfl) ?_ ?_
  · rintro vs H Q E ⟨_, rfl, _⟩
    rfl
  · rintro cdv A outer s H vs Q E hr ⟨F, rfl, fl, q⟩
    refine ⟨_, pss_cons (ps_set (i := 3) sc_L_full_shape.nd rfl (Or.inl rfl) (C8.pe_c (c_L_shape (K := K) S) hr (by decide) rfl (pa_cons (pv 0) (pa_cons (pv 1) (pa_cons (pv 2) pa_nil)))))
      (pss_cons (ps_for PassesOwn.never rfl (pi_range1 (by rfl) S.n_range (pa_cons pe_int pa_nil)) (pg_name (i := 4) sc_L_full_shape.nd rfl (Or.inl rfl))
        (pss_one (ps_if (pt_not (pt_val (C8.pe_c (c_L_has (K := K) S) hr (by decide) rfl (pa_cons (pv 3) (pa_cons (C8.pe_c (c_L_table (K := K) S) hr (by decide) rfl (pa_cons (pv 3) (pa_cons (pe_tup pa_nil) pa_nil))) pa_nil))))) (pss_one (ps_set (i := 3) sc_L_full_shape.nd rfl (Or.inl rfl) (C8.pe_c (c_L_shape (K := K) S) hr (by decide) rfl (pa_cons (pv 0) (pa_cons (pv 1) (pa_cons (pv 2) pa_nil)))))) pss_nil)))
      (pss_one (ps_ret (pe_tup (pa_cons (pv 3) (pa_cons (C8.pe_c (c_L_table (K := K) S) hr (by decide) rfl (pa_cons (pv 3) (pa_cons (pe_tup pa_nil) pa_nil))) pa_nil)))))), ?_⟩
    walk_at "go"
    refine ⟨F, rfl, fl, fun H1 p N R k1 sh ok => ?_⟩
    walk_at "go"
    refine ⟨by decide, by decide, ?_⟩
    refine forW (n := 3) walk_r0 (fun _ σ H2 => ∃ x4 x5, σ = [some (.ref F), some (.int 5), some (.int 9), x4, x5] ∧ FK F H H2 ∧ ∃ p N R, x4 = some (.ref p) ∧ ShapeAt H2 p N R ∧ FormOk N R) ⟨_, _, rfl, k1, p, N, R, rfl, sh, ok⟩ (fun _ _ _ _ _ => trivial) (fun i x σ H2 H2' hi ⟨x4, x5, eσ, k2, p, N, R, e4, sh, ok⟩ hY => ?_) fun σ H2 ⟨x4, x5, eσ, k2, p, N, R, e4, sh, ok⟩ => ?_
    · obtain ⟨rfl, rfl⟩ := hY
      subst e4
      subst eσ
      walk_at "go"
      refine ⟨szc rfl, fun pe hpe => ?_⟩
      have s3 := same_new (o := .tup []) hpe
      have sh3 := sh.tk (Same.tk s3)
      have e3 : upd H2' pe (.tup []) pe = some (.tup []) := upd_same
      generalize upd H2' pe (.tup []) = H3 at s3 sh3 e3
      refine ⟨p, pe, N, R, rfl, sh3, ok, e3, fun H4 D s4 _ dt => ?_⟩
      walk_at "go"
      refine ⟨p, D, 1000, N, R, _, rfl, sh3.tk (Same.tk s4), ok.n5, dt, tab_diag N R, fun H5 s5 => ?_⟩
      have s25 := Same.trans s3 (Same.trans s4 s5)
      have k5 := k2.same s25
      walk_at "go"
      refine ifb (fun h => ?_) fun h => ?_
      · walk_at "go"
        refine ⟨F, rfl, k5.fl, fun H6 p6 N6 R6 k6 sh6 ok6 => ?_⟩
        exact ⟨_, _, rfl, k5.trans k6, p6, N6, R6, rfl, sh6, ok6⟩
      · walk_at "go"
        exact ⟨_, _, rfl, k5, p, N, R, rfl, sh.tk (Same.tk s25), ok⟩
    · subst e4
      subst eσ
      walk_at "go"
      refine ⟨szc rfl, fun pe hpe => ?_⟩
      have s3 := same_new (o := .tup []) hpe
      have sh3 := sh.tk (Same.tk s3)
      have e3 : upd H2 pe (.tup []) pe = some (.tup []) := upd_same
      generalize upd H2 pe (.tup []) = H3 at s3 sh3 e3
      refine ⟨p, pe, N, R, rfl, sh3, ok, e3, fun H4 D s4 _ dt => ?_⟩
      walk_at "go"
      refine ⟨szc rfl, fun p5 hp5 => ?_⟩
      have s5 := same_new (o := .tup [.ref p, .ref D]) hp5
      have s25 := Same.trans s3 (Same.trans s4 s5)
      exact q _ p5 p D N R (k2.same s25) upd_same (sh.tk (Same.tk s25)) ok (dt.same s5)
abbrev N_L_frozen : List Str := ["_law_shape_here", "_law_table_here", "_law_found", "_law_tag", "_law_mate"]
theorem sc_L_frozen : FnScope N_L_frozen ["_law_shape_here", "_law_table_here"] (defScope s_L_frozen) := ⟨rfl, rfl, rfl, by decide +kernel, rfl, by decide +kernel, by decide +kernel⟩
def Frz (N : List Str) (T : TF) (t m : Str) : Prop := m ≠ t ∧ ∃ u v, T t m = some u ∧ T m t = some v ∧ u + v = 0
def sp_frozen : Sp := fun vs H Q _ => ∃ p D c, ∃ N : List Str, ∃ R T, vs = [.ref p, .ref D] ∧ ShapeAt H p N R ∧ N.length ≤ 5 ∧ DT H D T c ∧ DiagS N T ∧ ∀ H' L, ∀ Z : List Str, Same H H' → H' L = some (.lst (Z.map V.str)) → (hasB N T = true → ∀ t ∈ N, ∀ m ∈ eS :: N, Frz N T t m → t ∈ Z) → Q (.ref L) H'
theorem c_L_frozen (S : Sys K mg) : C8.Cal P w K mg base 2 "_law_frozen" sp_frozen [] := by
  refine calD S.f_D_L_frozen S.g_L_frozen sc_L_frozen (fun _ _ _ _ _ _ us hl => match us, hl with | [_, _], _ => rfl) ?_ ?_
  · rintro vs H Q E ⟨_, _, _, _, _, _, rfl, _⟩
    rfl
  · rintro cdv A outer s H vs Q E hr ⟨p, D, c, N, R, T, rfl, sh, n5, dt, ds, q⟩
    refine ⟨_, pss_cons (ps_set (i := 2) sc_L_frozen.nd rfl (Or.inl rfl) (pe_lst pa_nil))
      (pss_cons (ps_for PassesOwn.never rfl (pi_tupC (K := K) rfl (pe_ifExp (pt_val (C8.pe_c (c_L_has (K := K) S) hr (by decide) rfl (pa_cons (pv 0) (pa_cons (pv 1) pa_nil)))) (pe_ix (ix_tupC (K := K) rfl) (pv 0) pe_int (fun _ _ => rfl)) (pe_tup pa_nil))) (pg_name (i := 3) sc_L_frozen.nd rfl (Or.inl rfl))
        (pss_one (ps_for PassesOwn.never rfl (pi_tupC (K := K) rfl (pe_op (op_catAC (K := K) rfl) (pe_tup (pa_cons pe_str pa_nil)) (pe_ix (ix_tupC (K := K) rfl) (pv 0) pe_int (fun _ _ => rfl)))) (pg_name (i := 4) sc_L_frozen.nd rfl (Or.inl rfl))
        (pss_one (ps_if (PW.pt (pw_and (pt_cmpR op_ne (pv 4) (pv 3) (nomark _)) (pw_and (pt_cmp (pc_din (hu_of hr) (pe_tup (pa_cons (pv 3) (pa_cons (pv 4) pa_nil))) (pv 1))) (pw_and (pt_cmp (pc_din (hu_of hr) (pe_tup (pa_cons (pv 4) (pa_cons (pv 3) pa_nil))) (pv 1))) (pw_and1 (pt_cmpR (op_notIn_seqC (K := K) rfl) (pv 3) (pv 2) rfl)))))) (pss_one (ps_if (pt_cmpR op_eq (pe_op op_add (pe_dget (hu_of hr) (pv 1) (pe_tup (pa_cons (pv 3) (pa_cons (pv 4) pa_nil))) (fun _ _ => rfl)) (pe_dget (hu_of hr) (pv 1) (pe_tup (pa_cons (pv 4) (pa_cons (pv 3) pa_nil))) (fun _ _ => rfl))) pe_int (nomark _)) (pss_one (ps_expr (pe_bm PySem.F.plainAttrs_list PySem.F.slot_list_append PySem.F.type_list_append mt_append (pv 2) (pa_cons (pv 3) pa_nil)))) pss_nil)) pss_nil)))))
      (pss_one (ps_ret (pv 2)))), ?_⟩
    walk_at "go"
    refine ⟨szc rfl, fun L hL => ?_⟩
    have s1 := same_new (o := .lst []) hL
    have e1 : upd H L (.lst []) L = some (.lst (([] : List Str).map V.str)) := upd_same
    have dt1 := dt.same s1
    have sh1 := sh.tk (Same.tk s1)
    generalize upd H L (.lst []) = H1 at s1 e1 dt1 sh1
    walk_at "go"
    refine ⟨p, D, c, N, R, T, rfl, sh1, n5, dt1, ds, fun H2 s2 => ?_⟩
    have s02 := Same.trans s1 s2
    have e2 := s2 _ _ e1
    have dt2 := dt1.same s2
    obtain ⟨pf, pr, as, g1, g2, _, _⟩ := (sh1.tk (Same.tk s2)).ex
    have nDL : D ≠ L := fun z => by
      obtain ⟨_, e, _⟩ := dt2
      rw [z, e2] at e
      cases e
    have hL0 := hL
    walk_at "go"
    refine ifb (fun hb => ?_) fun hb => ?_
    · walk_at "go"
      refine forW (n := N.length) (G := fun H => SqT K H pf (N.map V.str)) (Y := YAt (N.map V.str)) (List.length_map (as := N) V.str ▸ walk_tup) (fun j σ H3 => ∃ x3 x4, ∃ Z : List Str, σ = [some (.ref p), some (.ref D), some (.ref L), x3, x4] ∧ Same H H3 ∧ H3 L = some (.lst (Z.map V.str)) ∧ DT H3 D T c ∧ H3 p = some (.tup [.ref pf, .ref pr]) ∧ H3 pf = some (.tup (N.map V.str)) ∧ Z.length ≤ j ∧ ∀ t ∈ N.take j, ∀ m ∈ eS :: N, Frz N T t m → t ∈ Z)
        ⟨_, _, [], rfl, s02, e2, dt2, g1, g2, Nat.le_refl _, fun t h => by cases h⟩ (fun _ _ _ _ ⟨_, _, _, _, _, _, _, _, e, _⟩ => .inl (.inl e)) (fun j x σ H3 H3' hj ⟨x3, x4, Z, eσ, s3, e3, dt3, i1, i2, zl, zi⟩ hY => ?_) fun σ H3 ⟨x3, x4, Z, eσ, s3, e3, dt3, i1, i2, zl, zi⟩ => ?_
      · obtain ⟨rfl, hx⟩ := hY
        obtain ⟨t, rfl, ht, htm⟩ := get_names hx
        subst eσ
        walk_at "go"
        refine ⟨szc rfl, fun p1 hp1 => ?_⟩
        have s4 : Same H3' (upd H3' p1 (.tup [.str (Str.ofString "")])) := same_new hp1
        have e4 : upd H3' p1 (.tup [.str (Str.ofString "")]) p1 = some (.tup [.str eS]) := upd_same
        generalize upd H3' p1 (.tup [.str (Str.ofString "")]) = H4 at s4 e4
        have i14 := s4 _ _ i1
        have i24 := s4 _ _ i2
        walk_at "go"
        refine rd_catT e4 i24 (sz (by simp; omega)) fun pn H5 s5 e5 => ?_
        have e5 : H5 pn = some (.tup ((eS :: N).map V.str)) := e5
        have s45 := Same.trans s4 s5
        have npL : ∀ {H6 : Hp} {q : Addr} {xs : List V} {ys : List V}, H6 L = some (.lst ys) → H6 q = some (.tup xs) → q ≠ L := fun h1 h2 z => by
          rw [z, h1] at h2
          cases h2
        refine ⟨pn, rfl, ⟨_, .inl (.inl e5)⟩, ?_⟩
        refine forW (n := (eS :: N).length) (G := fun H => SqT K H pn ((eS :: N).map V.str)) (Y := YAt ((eS :: N).map V.str)) (List.length_map (as := eS :: N) V.str ▸ walk_tup) (fun k σ H6 => ∃ x4, ∃ Z' : List Str, σ = [some (.ref p), some (.ref D), some (.ref L), some (.str t), x4] ∧ Same H H6 ∧ H6 L = some (.lst (Z'.map V.str)) ∧ DT H6 D T c ∧ H6 p = some (.tup [.ref pf, .ref pr]) ∧ H6 pf = some (.tup (N.map V.str)) ∧ H6 pn = some (.tup ((eS :: N).map V.str)) ∧ (Z' = Z ∨ Z' = Z ++ [t]) ∧ ∀ m ∈ (eS :: N).take k, Frz N T t m → t ∈ Z')
          ⟨_, Z, rfl, Same.trans s3 s45, s45 _ _ e3, dt3.same s45, s45 _ _ i1, s45 _ _ i2, e5, .inl rfl, fun m h => by cases h⟩ (fun _ _ _ _ ⟨_, _, _, _, _, _, _, _, e, _⟩ => .inl (.inl e)) (fun k x σ H6 H6' hk ⟨x4, Z', eσ, s6, e6, dt6, k1, k2, k3, zz, zm⟩ hY => ?_) fun σ H6 ⟨x4, Z', eσ, s6, e6, dt6, k1, k2, k3, zz, zm⟩ => ?_
        · obtain ⟨rfl, hx⟩ := hY
          obtain ⟨m, rfl, hm, hmm⟩ := get_names hx
          subst eσ
          have tk : (eS :: N).take (k + 1) = (eS :: N).take k ++ [m] := by
            rw [List.take_add_one, hm] <;> rfl
          have stay : ∀ H7, Same H6' H7 → (Frz N T t m → t ∈ Z') → ∃ x4, ∃ Z' : List Str, ([some (.ref p), some (.ref D), some (.ref L), some (.str t), some (.str m)] : L2.St) = [some (.ref p), some (.ref D), some (.ref L), some (.str t), x4] ∧ Same H H7 ∧ H7 L = some (.lst (Z'.map V.str)) ∧ DT H7 D T c ∧ H7 p = some (.tup [.ref pf, .ref pr]) ∧ H7 pf = some (.tup (N.map V.str)) ∧ H7 pn = some (.tup ((eS :: N).map V.str)) ∧ (Z' = Z ∨ Z' = Z ++ [t]) ∧ ∀ m ∈ (eS :: N).take (k + 1), Frz N T t m → t ∈ Z' := fun H7 s7 f =>
            ⟨_, Z', rfl, Same.trans s6 s7, s7 _ _ e6, dt6.same s7, s7 _ _ k1, s7 _ _ k2, s7 _ _ k3, zz, fun m' hm' => by
              rw [tk] at hm'
              rcases List.mem_append.mp hm' with h | h
              · exact zm m' h
              · rw [List.mem_singleton.mp h]
                exact f⟩
          walk_at "go"
          refine ifb (fun h => ?_) fun h => ?_
          · have nmt : m ≠ t := fun z => by
              rw [z, decide_eq_true rfl] at h
              cases h
            walk_at "go"
            refine ⟨szc rfl, fun q1 hq1 => ?_⟩
            have sHA : Same H6' (upd H6' q1 (.tup [.str t, .str m])) := same_new hq1
            have eHA : upd H6' q1 (.tup [.str t, .str m]) q1 = some (.tup [.str t, .str m]) := upd_same
            generalize upd H6' q1 (.tup [.str t, .str m]) = HA at sHA eHA
            walk_at "go"
            refine ⟨D, _, rfl, (dt6.same sHA).get eHA, ?_⟩
            cases hu : T t m with
            | none =>
              walk_at "go"
              exact stay _ sHA fun ⟨_, u, v, h1, _⟩ => by
                rw [hu] at h1
                cases h1
            | some u =>
              walk_at "go"
              refine ⟨szc rfl, fun q2 hq2 => ?_⟩
              have sHB : Same H6' (upd HA q2 (.tup [.str m, .str t])) := same_new2 sHA hq2
              have eHB : upd HA q2 (.tup [.str m, .str t]) q2 = some (.tup [.str m, .str t]) := upd_same
              generalize upd HA q2 (.tup [.str m, .str t]) = HB at sHB eHB
              walk_at "go"
              refine ⟨D, _, rfl, (dt6.same sHB).get eHB, ?_⟩
              cases hv : T m t with
              | none =>
                walk_at "go"
                exact stay _ sHB fun ⟨_, u, v, _, h1, _⟩ => by
                  rw [hv] at h1
                  cases h1
              | some v =>
                walk_at "go"
                refine ifb (fun h2 => ?_) fun h2 => ?_
                · have tz : t ∉ Z' := by simpa using h2
                  walk_at "go"
                  refine ⟨szc rfl, fun q3 hq3 => ?_⟩
                  have sHC : Same H6' (upd HB q3 (.tup [.str t, .str m])) := same_new2 sHB hq3
                  have eHC : upd HB q3 (.tup [.str t, .str m]) q3 = some (.tup [.str t, .str m]) := upd_same
                  generalize upd HB q3 (.tup [.str t, .str m]) = HC at sHC eHC
                  have gC := (dt6.same sHC).get eHC
                  rw [hu] at gC
                  refine ⟨D, _, rfl, gC, ?_⟩
                  walk_at "go"
                  refine ⟨szc rfl, fun q4 hq4 => ?_⟩
                  have sHE : Same H6' (upd HC q4 (.tup [.str m, .str t])) := same_new2 sHC hq4
                  have eHE : upd HC q4 (.tup [.str m, .str t]) q4 = some (.tup [.str m, .str t]) := upd_same
                  generalize upd HC q4 (.tup [.str m, .str t]) = HE at sHE eHE
                  have gE := (dt6.same sHE).get eHE
                  rw [hv] at gE
                  refine ⟨D, _, rfl, gE, ?_⟩
                  walk_at "go"
                  refine ifb (fun h3 => ?_) fun h3 => ?_
                  · have eL := sHE _ _ e6
                    have zle : Z'.length ≤ 10 := by
                      rcases zz with h | h
                      · rw [h]
                        omega
                      · rw [h, List.length_append]
                        show Z.length + 1 ≤ 10
                        omega
                    walk_at "go"
                    refine rd_appK eL (by rw [List.length_map]; exact Nat.lt_of_le_of_lt zle (by decide)) fun HG kG eG => ?_
                    have zZ : Z' = Z := zz.elim id fun h => absurd (by rw [h]; exact List.mem_append.mpr (.inr (List.mem_singleton_self t))) tz
                    have dtG : DT HG D T c := by
                      obtain ⟨kvs, a1, a2, a3⟩ := dt6.same sHE
                      exact ⟨kvs, kG _ _ a1 nDL, a2, a3⟩
                    have kk1 := sHE _ _ k1
                    have kk2 := sHE _ _ k2
                    have kk3 := sHE _ _ k3
                    exact ⟨_, Z' ++ [t], rfl, same_kp (Same.trans s6 sHE) hL0 kG, by rw [eG, List.map_append] <;> rfl, dtG, kG _ _ kk1 (npL eL kk1), kG _ _ kk2 (npL eL kk2), kG _ _ kk3 (npL eL kk3), .inr (by rw [zZ]), fun _ _ _ => List.mem_append.mpr (.inr (List.mem_singleton_self t))⟩
                  · walk_at "go"
                    exact stay _ sHE fun ⟨_, u', v', h4, h5, h6⟩ => by
                      rw [hu] at h4
                      rw [hv] at h5
                      cases h4
                      cases h5
                      exact absurd h6 (of_decide_eq_false h3)
                · walk_at "go"
                  exact stay _ sHB fun _ => by simpa using h2
          · walk_at "go"
            exact stay _ (Same.refl _) fun ⟨h1, _⟩ => absurd (by simpa using h) h1
        · subst eσ
          rw [List.take_length] at zm
          have tk : N.take (j + 1) = N.take j ++ [t] := by
            rw [List.take_add_one, ht] <;> rfl
          refine ⟨_, _, Z', rfl, s6, e6, dt6, k1, k2, ?_, fun t' ht' m hm f => ?_⟩
          · rcases zz with h | h
            · rw [h]
              omega
            · rw [h, List.length_append]
              exact Nat.succ_le_succ zl
          · rw [tk] at ht'
            rcases List.mem_append.mp ht' with h | h
            · have := zi t' h m hm f
              rcases zz with h | h
              · rw [h]
                exact this
              · rw [h]
                exact List.mem_append.mpr (.inl this)
            · rw [List.mem_singleton.mp h] at f ⊢
              exact zm m hm f
      · subst eσ
        rw [List.take_length] at zi
        walk_at "go"
        exact q _ L Z s3 e3 fun _ => zi
    · walk_at "go"
      refine ⟨szc rfl, fun p1 hp1 => ?_⟩
      have s4 := same_new (o := .tup []) hp1
      have e4 : upd H2 p1 (.tup []) p1 = some (.tup []) := upd_same
      refine ⟨p1, rfl, ⟨_, .inl (.inl e4)⟩, ?_⟩
      refine forW (n := 0) (G := fun H => SqT K H p1 []) (Y := YAt []) (walk_tup (xs := ([] : List V))) (fun _ σ H3 => σ = [some (.ref p), some (.ref D), some (.ref L), none, none] ∧ H3 = upd H2 p1 (.tup [])) ⟨rfl, rfl⟩ (fun _ _ _ _ ⟨_, e⟩ => .inl (.inl (e ▸ e4))) (fun j x σ H3 H3' hj _ _ => absurd hj (Nat.not_lt_zero _)) fun σ H3 ⟨eσ, eH⟩ => ?_
      subst eσ
      subst eH
      walk_at "go"
      exact q _ L [] (Same.trans s02 s4) (s4 _ _ e2) fun h => by
        rw [hb] at h
        cases h
abbrev N_L_are_akin : List Str := ["_law_shape_here", "_law_one", "_law_two", "_law_tags_here", "_law_tag"]
theorem sc_L_are_akin : FnScope N_L_are_akin ["_law_shape_here", "_law_one", "_law_two"] (defScope s_L_are_akin) := ⟨rfl, rfl, rfl, by decide +kernel, rfl, by decide +kernel, by decide +kernel⟩
def sp_akin : Sp := fun vs H Q _ => ∃ p a b, ∃ N : List Str, ∃ R, ∃ ns ms : List Int, vs = [.ref p, .ref a, .ref b] ∧ ShapeAt H p N R ∧ FormOk N R ∧ H a = some (.tup (ns.map V.int)) ∧ H b = some (.tup (ms.map V.int)) ∧ ns.length = N.length ∧ ms.length = N.length ∧
  ∀ H' c, Same H H' → (hasB N (tabF N R) = true → ∀ t ∈ diffL N ns ms, ∀ m ∈ eS :: N, Frz N (tabF N R) t m → c = false) → Q (.bl c) H'
theorem c_L_are_akin (S : Sys K mg) : C8.Cal P w K mg base 3 "_law_are_akin" sp_akin [] := by
  refine calD S.f_D_L_are_akin S.g_L_are_akin sc_L_are_akin (fun _ _ _ _ _ _ us hl => match us, hl with | [_, _, _], _ => rfl) ?_ ?_
  · rintro vs H Q E ⟨_, _, _, _, _, _, _, rfl, _⟩
    rfl
  · rintro cdv A outer s H vs Q E hr ⟨p, a, b, N, R, ns, ms, rfl, sh, ok, ha, hb, l1, l2, q⟩
    refine ⟨_, pss_cons (ps_set (i := 3) sc_L_are_akin.nd rfl (Or.inr rfl) (C8.pe_c (c_L_frozen (K := K) S) hr (by decide) rfl (pa_cons (pv 0) (pa_cons (C8.pe_c (c_L_table (K := K) S) hr (by decide) rfl (pa_cons (pv 0) (pa_cons (pe_tup pa_nil) pa_nil))) pa_nil))))
      (pss_one (ps_ret (pe_cmpR (op_eqDC (K := K) rfl hr.units) (pe_lc (own := [("_law_tag", 4)]) (g := gName 4) rfl sc_L_are_akin.nd (pi_tupC (K := K) rfl (C8.pe_c (c_L_differ (K := K) S) hr (by decide) rfl (pa_cons (pv 0) (pa_cons (pv 1) (pa_cons (pv 2) pa_nil))))) (blkOk_by (N := N_L_are_akin) (sc := defScope s_L_are_akin) (by decide +kernel)) (fun _ _ _ _ _ => (pg_name (i := 4) sc_L_are_akin.nd rfl (Or.inl rfl))) (fun _ _ _ _ _ => pts_one (pt_cmpR (op_in_seqC (K := K) rfl) (pv 4) (pv 3) rfl)) (fun _ _ _ _ _ => (pv 4))) (pe_lst pa_nil) (nomark _)))), ?_⟩
    walk_at "go"
    refine ⟨szc rfl, fun pe hpe => ?_⟩
    have s1 := same_new (o := .tup []) hpe
    have e1 : upd H pe (.tup []) pe = some (.tup []) := upd_same
    have sh1 := sh.tk (Same.tk s1)
    generalize upd H pe (.tup []) = H1 at s1 e1 sh1
    refine ⟨p, pe, N, R, rfl, sh1, ok, e1, fun H2 D s2 _ dt2 => ?_⟩
    have sh2 := sh1.tk (Same.tk s2)
    walk_at "go"
    refine ⟨p, D, 1000, N, R, tabF N R, rfl, sh2, ok.n5, dt2, tab_diag N R, fun H3 L Z s3 e3 hz => ?_⟩
    have s03 := Same.trans s1 (Same.trans s2 s3)
    walk_at "go"
    refine ⟨p, a, b, N, R, ns, ms, rfl, sh.tk (Same.tk s03), ok.n5, s03 _ _ ha, s03 _ _ hb, l1, l2, fun H4 pd s4 e4 => ?_⟩
    have e34 := s4 _ _ e3
    walk_at "go"
    refine lcW (n := (diffL N ns ms).length) (G := fun H => SqT K H pd ((diffL N ns ms).map V.str)) (Y := YAt ((diffL N ns ms).map V.str)) (List.length_map (as := diffL N ns ms) V.str ▸ walk_tup) (fun j acc _ => ∃ Y : List Str, acc = Y.map V.str ∧ (∀ y ∈ Y, y ∈ diffL N ns ms) ∧ ∀ t ∈ (diffL N ns ms).take j, t ∈ Z → t ∈ Y) (fun _ _ _ _ _ h => h) ⟨[], rfl, (fun y h => absurd h List.not_mem_nil), (fun t h => absurd h (by rw [List.take_zero]; exact List.not_mem_nil))⟩ ?_ (fun H5 s => .inl (.inl (s _ _ e4))) (fun j x acc H5 H5' hj s f _ hY Qy Qn hQ hN => ?_) fun L5 H5 acc hL5 s e5 f _ => ?_
    · refine Nat.le_trans (List.length_filterMap_le _ _) (Nat.le_trans (List.length_filter_le _ _) ?_)
      rw [List.length_range]
      have := ok.n5
      omega
    · obtain ⟨rfl, hx⟩ := hY
      obtain ⟨t, rfl, ht, htm⟩ := get_names hx
      obtain ⟨Y, rfl, f1, f2⟩ := f
      have tk : (diffL N ns ms).take (j + 1) = (diffL N ns ms).take j ++ [t] := by
        rw [List.take_add_one, ht] <;> rfl
      have eZ := s _ _ e34
      walk_at "go"
      refine ifb (fun h => ?_) fun h => ?_
      · walk_at "go"
        refine hQ _ _ (Same.refl _) ⟨Y ++ [t], by rw [List.map_append] <;> rfl, fun y hy => ?_, fun t' ht' hz' => ?_⟩
        · rcases List.mem_append.mp hy with h | h
          · exact f1 y h
          · rw [List.mem_singleton.mp h]
            exact htm
        · rw [tk] at ht'
          rcases List.mem_append.mp ht' with h | h
          · exact List.mem_append.mpr (.inl (f2 t' h hz'))
          · exact List.mem_append.mpr (.inr h)
      · refine hN _ (Same.refl _) ⟨Y, rfl, f1, fun t' ht' hz' => ?_⟩
        rw [tk] at ht'
        rcases List.mem_append.mp ht' with h' | h'
        · exact f2 t' h' hz'
        · rw [List.mem_singleton.mp h'] at hz'
          exact absurd hz' (of_decide_eq_false h)
    · obtain ⟨Y, rfl, f1, f2⟩ := f
      rw [List.take_length] at f2
      have memN : ∀ y ∈ Y, y ∈ N := fun y hy => by
        obtain ⟨i, e, _⟩ := diffL_mem.mp (f1 y hy)
        exact List.mem_of_getElem? e
      walk_at "go"
      refine ⟨szc rfl, fun p6 hp6 => ?_⟩
      have s6 := same_new (o := .lst []) hp6
      refine ⟨.list (Y.map PyData.str), .list [], dp_lst (s6 _ _ e5) names_da, dp_lst upd_same .nil, shaped_lstrs fun z hz => menu_ok z (ok.mn z (memN z hz)), rfl, ?_⟩
      refine q _ _ (Same.trans s03 (Same.trans s4 (Same.trans s s6))) fun hb t ht m hm f => ?_
      have hY := f2 t ht (hz hb t (by
        obtain ⟨i, e, _⟩ := diffL_mem.mp ht
        exact List.mem_of_getElem? e) m hm f)
      cases Y with
      | nil => cases hY
      | cons y Y => rfl
end
end K59
/-! K59LenSet -/
set_option Elab.async false
set_option linter.all false
set_option maxRecDepth 100000
set_option maxHeartbeats 4000000
namespace K59
open PySem PySem.W PySem.Calls PySem.Spec PyProof.Rows L2
open AutoSeq1 (wpAny_loadPart')
open MeetsSeq MeetsSeq2 MeetsSeq3 SeqRoads2
/-! ### len(set(xs)), xs a list of texts -/
def cnt (l : List Str) : Nat := (keysD l ([] : List (Str × V))).length
theorem mem_keysD {κ : Type} [DecidableEq κ] : ∀ (ks : List κ) (acc : List (κ × V)) (k : κ), k ∈ (keysD ks acc).map (·.1) ↔ k ∈ ks ∨ k ∈ acc.map (·.1)
  | [], acc, k => ⟨fun h => .inr h, fun h => h.elim (fun z => absurd z List.not_mem_nil) id⟩
  | x :: ks, acc, k => by
    show k ∈ (keysD ks (putK acc x (.bl true))).map (·.1) ↔ _
    rw [mem_keysD ks, put_keys, List.mem_cons]
    by_cases h : x ∈ acc.map (·.1)
    · rw [if_pos h]
      constructor
      · rintro (a | a)
        · exact .inl (.inr a)
        · exact .inr a
      · rintro ((a | a) | a)
        · exact .inr (a ▸ h)
        · exact .inl a
        · exact .inr a
    · rw [if_neg h, List.mem_append, List.mem_singleton]
      constructor
      · rintro (a | a | a)
        · exact .inl (.inr a)
        · exact .inr a
        · exact .inl (.inl a)
      · rintro ((a | a) | a)
        · exact .inr (.inr a)
        · exact .inl a
        · exact .inr (.inl a)
theorem cnt_snoc (l : List Str) (x : Str) : cnt (l ++ [x]) = if x ∈ l then cnt l else cnt l + 1 := by
  unfold cnt keysD
  rw [List.foldl_append]
  show (putK (keysD l []) x (.bl true)).length = _
  have e : (putK (keysD l ([] : List (Str × V))) x (.bl true)).length = ((putK (keysD l ([] : List (Str × V))) x (.bl true)).map (·.1)).length := (List.length_map ..).symm
  rw [e, put_keys]
  have hm := mem_keysD l ([] : List (Str × V)) x
  by_cases h : x ∈ l
  · rw [if_pos (hm.mpr (.inl h)), if_pos h, List.length_map] <;> rfl
  · rw [if_neg fun z => (hm.mp z).elim h (fun z => by cases z), if_neg h, List.length_append, List.length_map] <;> rfl
theorem cnt_le (l : List Str) : cnt l ≤ l.length := by
  have := (keysD_len l ([] : List (Str × V))).1
  rw [List.length_nil, Nat.zero_add] at this
  exact this
theorem cnt_lt (l : List Str) : decide ((cnt l : Int) < (l.length : Nat)) = !decide l.Nodup := by
  have h := (keysD_len l ([] : List (Str × V))).2
  rw [List.length_nil, Nat.zero_add] at h
  have h1 := cnt_le l
  by_cases g : l.Nodup
  · have : cnt l = l.length := h.mpr ⟨g, fun _ _ z => by cases z⟩
    rw [decide_eq_true g, decide_eq_false (by omega)] <;> rfl
  · have : cnt l ≠ l.length := fun z => g (h.mp z).1
    rw [decide_eq_false g, decide_eq_true (by omega)] <;> rfl
def inS (l : List Str) (k : Str) : Bool := decide (k ∈ l)
theorem inS_snoc (l : List Str) (x k : Str) : (inS l k || decide (k = x)) = inS (l ++ [x]) k := by
  unfold inS
  by_cases h : k ∈ l
  · rw [decide_eq_true h, decide_eq_true (List.mem_append.mpr (.inl h)), Bool.true_or]
  · rw [decide_eq_false h, Bool.false_or]
    by_cases g : k = x
    · rw [decide_eq_true g, decide_eq_true (List.mem_append.mpr (.inr (List.mem_singleton.mpr g)))]
    · rw [decide_eq_false g, decide_eq_false fun z => (List.mem_append.mp z).elim h fun z => g (List.mem_singleton.mp z)]
section
variable {prog : Program} {w : World} {A : Around} {R : Result → Shared → Prop} {I : Addr} {fp wr : List Addr} {G : Array GenState → Array GenState → Prop} {n : Nat} {P : Nat → Value → Prop} {St : Nat → Shared → Prop}
theorem loopN (W : WalksS prog w A.in1 I fp wr G n P St) (S : Addr) (hSf : S ∉ fp) (xs : List Str) (hsz : xs.length = n) (hn : n ≤ 4000) (hval : ∀ i v, P i v → ∃ x t, xs[i]? = some x ∧ v = .str x t) :
    ∀ (k i : Nat) (s : Shared), n - i = k → i ≤ n → St i s → s.heap.SetOf (PySem.strKind prog w) S (inS (xs.take i)) (cnt (xs.take i)) →
      (∀ s', Moved (S :: wr) G s s' → s'.heap.SetOf (PySem.strKind prog w) S (inS (xs.take n)) (cnt (xs.take n)) → R (.ok (.ret .none)) s') → codeAny (model prog w) A (.builtin "set.update.loop" ⟨[.ref S, .ref I], []⟩) R s := by
  have hSw : S ∉ wr := fun h => hSf (W.sub _ h)
  have hsub : ∀ b ∈ wr, b ∈ S :: wr := fun b hb => List.mem_cons_of_mem _ hb
  have moved : ∀ {s s' : Shared} {Sf : Str → Bool} {m : Nat}, Moved wr G s s' → s.heap.SetOf (PySem.strKind prog w) S Sf m → s'.heap.SetOf (PySem.strKind prog w) S Sf m := fun hm ⟨o, es, ep, t, ho, rest⟩ => ⟨o, es, ep, t, hm.heap S _ hSw ho, rest⟩
  intro k
  induction k with
  | zero =>
    intro i s hk hi hst hS hR
    obtain rfl : i = n := by omega
    refine codeAny_builtin PyProof.Rows.F.entry_set_update_loop ?_
    rw [Around.under_plainId PyProof.Rows.F.plain_set_update_loop _]
    exact (show wpAny _ A.in1 (pyNext (.ref I) >>= _) _ _ s from wpAny_bind (W.done s _ _ hst fun s' hm => (show wpAny _ A.in1 (ret Value.none) _ _ s' from wpAny_pure (hR s' (hm.mono hsub) (moved hm hS)))))
  | succ k ih =>
    intro i s hk hi hst hS hR
    have hlt : i < n := by omega
    refine codeAny_builtin PyProof.Rows.F.entry_set_update_loop ?_
    rw [Around.under_plainId PyProof.Rows.F.plain_set_update_loop _]
    refine (show wpAny _ A.in1 (pyNext (.ref I) >>= _) _ _ s from wpAny_bind (W.item i s _ _ hlt hst fun v s' hP hst' hm => ?_))
    obtain ⟨x, t, hx, rfl⟩ := hval i v hP
    have hS' := moved hm hS
    have hc : cnt (xs.take i) ≤ 4000 := Nat.le_trans (cnt_le _) (by rw [List.length_take]; omega)
    have tk : xs.take (i + 1) = xs.take i ++ [x] := by
      rw [List.take_add_one, hx] <;> rfl
    refine (show wpAny _ A.in1 (holding [Value.str x t] (setAdd S (.str x t)) >>= _) _ _ s' from wpAny_bind (wpAny_holding ?_))
    unfold setAdd
    refine wpAny_holding (wpAny_bind ((PySem.strKind prog w).pyHash (k := x) (strKind_is _ _ _ _) ?_))
    refine wpAny_setAddHashed_of (knd := PySem.strKind prog w) (s := { s' with toks := s'.toks + 1 }) (strKind_is _ _ _ _) rfl hS' (by unfold scanBound; omega) fun h' hsb hS2 => ?_
    have hSi : h'.SetOf (PySem.strKind prog w) S (inS (xs.take (i + 1))) (cnt (xs.take (i + 1))) := SetOf_congr hS2 (fun k' => by rw [tk, inS_snoc]) (by
      rw [tk, cnt_snoc]
      unfold inS
      by_cases g : x ∈ xs.take i
      · rw [if_pos g, if_pos (decide_eq_true g)]
      · rw [if_neg g, if_neg (by rw [decide_eq_false g]; exact Bool.false_ne_true)])
    have hb' : ∀ b, b ≠ S → h'.get? b = s'.heap.get? b := fun b hb => hsb.2 b hb
    refine wpAny_pure ⟨plainId_quiet PyProof.Rows.F.plain_set_update_loop _, ih (i + 1) _ (by omega) hlt (W.frame _ s' _ _ hst' (Nat.le_succ _) fun b hb o e => (hb' b fun h => hSf (h ▸ hb)).trans e) hSi fun s'' hm'' hS'' => ?_⟩
    exact hR s'' (Moved.trans W.gtrans ((hm.mono hsub).then_heap (Nat.le_succ _) fun b o hb e => (hb' b fun h => hb (h ▸ List.mem_cons_self)).trans e) hm'') hS''
end
section
variable {prog : Program} {w : World} {A : Around} {E : Value → Shared → Prop} {s : Shared}
abbrev setO (led : Bool) : Obj := { cls := .type "set", dict := none, data := .set #[] 0 (.fresh 0 0 led) }
set_option maxHeartbeats 3200000 in
theorem call_setN {l : Addr} {items : Array Value} {xs : List Str} {Q : Value → Shared → Prop} (hh : A.handled = none) (hl : s.heap.IsList l items) (hsz : xs.length = items.size) (hn : xs.length ≤ 4000) (hv : ∀ (i : Nat) (v : Value), items[i]? = some v → ∃ (x : Str) (t : Tok), xs[i]? = some x ∧ v = Value.str x t)
    (h : ∀ (h' : Heap) (tk : Nat), h'.SetOf (PySem.strKind prog w) s.heap.objs.size (inS xs) (cnt xs) → (∀ b o, b < s.heap.objs.size → s.heap.get? b = some o → h'.get? b = some o) → Q (.ref s.heap.objs.size) { s with heap := h', toks := tk }) :
    wpAny (model prog w) A (call (.type "set") [.ref l]) Q E s := by
  obtain ⟨c, tl, hmro⟩ := PySem.F.called_set.mro
  have made := PySem.F.called_set.made
  have subs := PySem.F.called_set.sub
  refine wpAny_call (codeAny_of_tree (show wpAny _ _ (callAny (.type "set") _) _ _ _ from wpAny_pure ⟨Code.quiet_builtin _ (by decide +kernel), codeAny_builtin PySem.F.entry_type_call ?_⟩))
  rw [Around.under_plain (weight_type_call_type "set" [.ref l] []) rfl]
  have f1 := PySem.F.called_set.notType
  have f2 := PySem.F.called_set.canCreate
  have f3 := PySem.F.typeCall_set_1 (.ref l)
  repeat (any_goals (first | assumption | wp_step))
  refine codeAny_mono (code_set_new_1 (.ref l) (E := E) (Q₁ := fun obj sa => ∃ led : Bool, obj = .ref s.heap.objs.size ∧ sa = { s with heap := s.heap.push (setO led) }) fun led => ⟨led, rfl, rfl⟩) fun r sa hr => ?_
  cases r with
  | error e => exact hr
  | ok fl =>
    cases fl with
    | ret obj =>
      obtain ⟨led, rfl, rfl⟩ := hr
      have hS : (s.heap.push (setO led)).get? s.heap.objs.size = some (setO led) := Heap.get?_push_size _ rfl
      have hT : Shared.TypeIs { s with heap := s.heap.push (setO led) } (.ref s.heap.objs.size) "set" := ⟨_, hS, rfl⟩
      have f4 := PySem.F.called_set.init.lookup
      have f5 := PySem.F.called_set.init.bind (.ref s.heap.objs.size)
      repeat (any_goals (first | assumption | wp_step))
      refine codeAny_mono (codeAny_call_builtin (R := wants (fun r sb => r = .none ∧ ∃ h' tk, sb = { s with heap := h', toks := tk } ∧ h'.SetOf (PySem.strKind prog w) s.heap.objs.size (inS xs) (cnt xs) ∧ (∀ b o, b < s.heap.objs.size → s.heap.get? b = some o → h'.get? b = some o)) E)
        PySem.F.called_set.init.plain PySem.F.entry_set_init (check_set_init_1 hT ?_)) fun rb sb hrb => ?_
      · obtain ⟨⟨ocls, odict, odata, oslots⟩, hol, hcl, nl, hdl⟩ := hl
        simp only at hcl hdl
        subst hcl
        subst hdl
        have hol' : (s.heap.push (setO led)).get? l = some { cls := .type "list", dict := odict, data := .seq items nl, slots := oslots } := Heap.get?_push_of_some _ hol
        have g1 := PySem.F.sub_list_set
        have g2 := PySem.F.sub_list_frozenset
        have g3 : (Value.type "list" == Value.type "dict") = false := by decide
        have hl1 : (s.heap.push (setO led)).IsList l items := ⟨_, hol', rfl, nl, rfl⟩
        unfold Builtin.«set.__init__» noKeywords Builtin.Frozenset.updateFrom
        generalize hPI : pyIter = PI
        wp_walk
        subst hPI
        refine wpAny_pyIter_list hl1 (wpAny_bind (wpAny_runValue ?_))
        have hlS : l < s.heap.objs.size := Heap.lt_size hol
        have hsp : (s.heap.push (setO led)).objs.size = s.heap.objs.size + 1 := Heap.size_push ..
        have hneI : l ≠ (s.heap.push (setO led)).objs.size := by
          rw [hsp]
          exact Nat.ne_of_lt (Nat.lt_succ_of_lt hlS)
        have hSf : s.heap.objs.size ∉ [(s.heap.push (setO led)).objs.size, l] := by
          rw [hsp]
          simp only [List.mem_cons, List.not_mem_nil, or_false, not_or]
          exact ⟨Nat.ne_of_lt (Nat.lt_succ_self _), Nat.ne_of_gt hlS⟩
        refine loopN ((Walks.list (show A.in1.in1.in1.handled = none by simp [hh]) _ l hneI items).toS) s.heap.objs.size hSf xs hsz (by rw [← hsz]; exact hn) hv (items.size - 0) 0 _ (by omega) (Nat.zero_le _) ⟨⟨_, Heap.get?_push_size _ rfl, rfl, rfl⟩, (hl1.push _)⟩ ?_ ?_
        · exact SetOf_congr ((setObjOf_fresh (knd := PySem.strKind prog w) led).setOf (show ((s.heap.push (setO led)).push _).get? s.heap.objs.size = some (setO led) from Heap.get?_push_of_some _ hS) (by unfold scanBound; omega)) (fun _ => rfl) rfl
        · rintro ⟨h', g', d', tk', os'⟩ hm hS'
          obtain rfl : g' = s.gens := hm.gens
          obtain rfl : d' = s.drawn := hm.drawn
          obtain rfl : os' = s.os := hm.os
          rw [← hsz, List.take_length] at hS'
          refine (show wpAny _ _ _ _ _ _ from wpAny_pure (show wpAny _ _ (ret Value.none) _ _ _ from wpAny_pure ⟨rfl, h', tk', rfl, hS', fun b o hb e => ?_⟩))
          refine hm.heap b o ?_ (Heap.get?_push_of_some _ (Heap.get?_push_of_some _ e))
          rw [hsp]
          simp only [List.mem_cons, List.not_mem_nil, or_false, not_or]
          exact ⟨Nat.ne_of_lt hb, Nat.ne_of_lt (Nat.lt_succ_of_lt hb)⟩
      · cases rb with
        | error e => exact hrb
        | ok fl2 =>
          cases fl2 with
          | ret r =>
            obtain ⟨rfl, h', tk, rfl, hS', hk'⟩ := hrb
            repeat (any_goals (first | assumption | wp_step))
            exact h _ _ hS' hk'
          | _ => exact hrb.elim
    | _ => exact hr.elim
end
section
variable {X : Cx} {K : Frag}
def rLenSet (K : Frag) : V → Hp → VK → Prop := fun x H1 Q => ∃ (l : Addr) (xs : List Str), x = .ref l ∧ SqL K H1 l (xs.map V.str) ∧ xs.length ≤ 4000 ∧ Q (.int (cnt xs)) H1
theorem pe_lenSetS {a : Expr} {ta : TE} {p p2 q pos : Pos} (hK : X.K = K) (hc : X.calm = true) (hg : Gl X "len") (hm : X.mg "len" = none) (hg2 : Gl X "set") (hm2 : X.mg "set" = none) (ha : PE X a ta) (na : starEach [a] X.env = (false, eval a X.env) :: starEach [] X.env := by rfl) :
    PE X (.Call (.Name "len" p) [.Call (.Name "set" p2) [a] [] q] [] pos) (tUn (rLenSet K) ta) := by
  subst hK
  refine ⟨fun pins s σ H Q I h => ?_⟩
  refine Call_ (ld_blt I hg hm PySem.boot_len (PyProof.Rows.callWith_builtin1 (PyProof.Rows.args_cons (Call_ (ld_blt I hg2 hm2 PyProof.Rows.boot_set ?_)) rfl) rfl rfl))
  refine PyProof.Rows.callWith_type1 (PyProof.Rows.args_cons (thn (ha.run pins s σ H _ I h) fun v sa ⟨x, H1, I1, r1, q1⟩ => PyProof.Rows.args_nil ?_) na) na rfl
  obtain ⟨l, xs, rfl, hq, hle, q1⟩ := q1
  cases r1
  obtain ⟨its, r, pl, hz⟩ := I1.list hq
  have hlen : xs.length = its.toArray.size := by rw [List.size_toArray, ← r.length, List.length_map]
  refine call_setN (I1.ok.hd hc) pl.isList hlen hle (fun i v e => ?_) fun h' tk hS hk => PyProof.Rows.args_nil ?_
  · have e : its[i]? = some v := by simpa using e
    have hi : i < xs.length := by
      rw [hlen, List.size_toArray]
      exact (List.getElem?_eq_some_iff.mp e).1
    obtain ⟨u, hu, t, hu2⟩ := r.get (i := i) (x := .str xs[i]) (by rw [List.getElem?_map, List.getElem?_eq_getElem hi] <;> rfl)
    rw [e] at hu
    cases hu
    exact ⟨xs[i], t, List.getElem?_eq_getElem hi, hu2⟩
  · obtain ⟨o, es, ep, t, ho, hex, hd, _, _, _, hf, hn⟩ := hS
    have I2 : Inv X pins σ H1 { sa with heap := h', toks := tk } := I1.kept fun b o e => hk b o (Heap.lt_size e) e
    have hc2 := cnt_le xs
    exact call_len_set ho hex hd hf (by rw [hn]; omega) ⟨.int (cnt xs), H1, I2.tok _, ⟨_, by rw [hn]⟩, q1⟩
end
end K59
/-! K59L10 -/
set_option Elab.async false
set_option linter.all false
set_option maxRecDepth 100000
set_option maxHeartbeats 4000000
namespace K59
open PySem PySem.W PySem.Calls PySem.Spec PyProof.Rows L2
local macro_rules | `(tactic| walk_at "hp") => `(tactic| first
  | assumption
  | exact upd_same
  | (refine same_new (by assumption) _ _ ?_; walk_at "hp")
  | (refine (by assumption : Same _ _) _ _ ?_; walk_at "hp")
  | (refine FK.tk (by assumption) (by assumption) _ _ ?_; walk_at "hp"))
local macro_rules | `(tactic| walk_at "sq") => `(tactic| first
  | assumption
  | exact FrzT.sq (by assumption)
  | (refine sqt_new (by assumption) ?_; walk_at "sq")
  | (refine sqt_same ?_ (by assumption); walk_at "sq"))
local macro_rules | `(tactic| walk_at "fz") => `(tactic| first
  | assumption
  | (refine frz_new (by assumption) ?_; walk_at "fz")
  | (refine FrzT.same ?_ (by assumption); walk_at "fz"))
local macro_rules | `(tactic| walk_at "ic") => `(tactic| first
  | ((with_reducible show (0 : Int) < _); decide)
  | exact Or.inl ⟨by decide, by decide⟩
  | exact Or.inr ⟨by decide, by decide⟩
  | exact (show (0 : Int) < _ ∧ _ < (1073741824 : Int) from ⟨by decide, by decide⟩)
  | exact (show (0 : Int) ≤ _ ∧ _ ≤ (1000000 : Int) ∧ Int.natAbs _ < 2 ^ 64 from ⟨by decide, by decide, by decide⟩)
  | exact (⟨by decide, by decide, by decide⟩ : _ ∧ _ ∧ _))
local macro_rules | `(tactic| walk_at "st") => `(tactic| first
  | with_reducible refine rd_var rfl ?_
  | with_reducible refine rd_c ?_
  | with_reducible refine rd_cons ?_
  | with_reducible refine rd_nil ?_
  | with_reducible refine rd_op ?_
  | with_reducible refine rd_cb ?_
  | with_reducible refine rd_call ?_
  | with_reducible refine rd_test ?_
  | with_reducible refine rd_B ?_
  | with_reducible refine rd_bl ?_
  | with_reducible refine rd_un ?_
  | with_reducible refine rd_and ?_
  | with_reducible refine rd_or ?_
  | with_reducible refine rd_not ?_
  | with_reducible refine rd_andV ?_
  | with_reducible refine rd_orV ?_
  | with_reducible refine rd_notV ?_
  | with_reducible refine rd_if ?_
  | with_reducible refine rd_chain ?_
  | with_reducible refine rd_I0 ?_
  | with_reducible refine rd_U ?_
  | with_reducible refine rd_eqI ?_
  | with_reducible refine rd_neI ?_
  | with_reducible refine rd_eqS ?_
  | with_reducible refine rd_neS ?_
  | with_reducible refine rd_nn ?_
  | with_reducible refine rd_asg ?_
  | with_reducible refine rd_gname ?_
  | with_reducible refine rd_seq ?_
  | with_reducible refine rd_ifS ?_
  | with_reducible refine rd_ret ?_
  | with_reducible refine rd_next ?_
  | with_reducible refine rd_cont ?_
  | with_reducible refine rd_drop ?_
  | with_reducible refine rd_par ?_
  | with_reducible refine rd_vs2 ?_
  | with_reducible refine rd_gsub ?_
  | with_reducible refine rd_gcons ?_
  | with_reducible refine rd_gnil ?_
  | with_reducible refine rd_tup ?_
  | with_reducible refine rd_lst ?_
  | with_reducible refine rd_sl ?_
  | with_reducible refine rd_part ?_
  | with_reducible refine rd_nopart ?_
  | with_reducible refine rd_i1 ?_
  | with_reducible refine rd_bm ?_
  | with_reducible refine rd_yes ?_
  | with_reducible refine rd_lcT ?_
  | with_reducible refine rd_lcL ?_
  | with_reducible refine rd_lcR1 ?_
  | with_reducible refine rd_lcS ?_
  | with_reducible refine rd_forT ?_
  | with_reducible refine rd_forL ?_
  | with_reducible refine rd_forR1 ?_
  | with_reducible refine rd_atS ?_
  | with_reducible refine rd_forEn ?_
  | with_reducible refine rd_dget ?_
  | with_reducible refine rd_din ?_
  | with_reducible refine rd_dget2 ?_
  | with_reducible refine rd_dput ?_
  | with_reducible refine rd_disp ?_
  | with_reducible refine rd_pcons ?_
  | with_reducible refine rd_pnil ?_
  | with_reducible refine rd_dcL ?_
  | with_reducible refine rd_lcEn ?_
  | with_reducible refine rd_yS ?_
  | with_reducible refine rd_m1 ?_
  | with_reducible refine rd_meth ?_
  | with_reducible refine rd_fld ?_
  | with_reducible refine rd_sfld ?_
  | with_reducible refine rd_make ?_
  | with_reducible refine rd_fmt ?_
  | with_reducible refine rd_js ?_
  | with_reducible refine rd_js0 ?_
  | with_reducible refine iteT ?_
  | with_reducible refine iteF ?_
  | ((with_reducible refine isi_int (d := ?d1) (N := ?n1) ?h1 ?_); (case h1 => assumption))
  | ((with_reducible refine isi_bool (d := ?d1) (N := ?n1) ?h1 ?_); (case h1 => assumption))
  | ((with_reducible refine isi_str (d := ?d1) (N := ?n1) ?h1 ?_); (case h1 => assumption))
  | ((with_reducible refine isi_tuple (d := ?d1) (N := ?n1) ?h1 ?_); (case h1 => assumption))
  | with_reducible refine isi_str (N := fun _ => True) (Da.str _) ?_
  | with_reducible refine isi_int (N := fun _ => True) (Da.int _) ?_
  | with_reducible refine isi_bool (N := fun _ => True) (Da.int _) ?_
  | with_reducible refine isi_str (N := fun _ => True) (Da.int _) ?_
  | ((with_reducible show (wipe _ _ = wipe _ _) ∧ _); refine ⟨rfl, ?_⟩)
  | ((with_reducible show Ends.nx _ _ _); dsimp only)
  | ((with_reducible show Ends.rt _ _ _); dsimp only)
  | ((with_reducible show Ends.ct _ _ _); dsimp only)
  | ((with_reducible refine rd_ixT (xs := ?x1) (v := ?v1) ?h1 ?e1 ?_); (case h1 => walk_at "hp"); (case e1 => rfl))
  | ((with_reducible refine rd_ixL (xs := ?x1) (v := ?v1) ?h1 ?e1 ?_); (case h1 => walk_at "hp"); (case e1 => rfl))
  | ((with_reducible refine rd_lenT (xs := ?x1) ?h1 ?_); (case h1 => walk_at "hp"))
  | ((with_reducible refine rd_lenL (xs := ?x1) ?h1 ?_); (case h1 => walk_at "hp"))
  | ((with_reducible refine rd_tupOf (xs := ?x1) ?h1 ?_); (case h1 => walk_at "hp"))
  | ((with_reducible refine rd_all (bs := ?x1) ?h1 ?_); (case h1 => walk_at "hp"))
  | ((with_reducible refine rd_atT (xs := ?x1) ?h1 ?_); (case h1 => walk_at "hp"))
  | ((with_reducible refine rd_atL (xs := ?x1) ?h1 ?_); (case h1 => walk_at "hp"))
  | ((with_reducible refine rd_gtup (xs := ?x1) ?h1 ?e1 ?_); (case h1 => walk_at "hp"); (case e1 => rfl))
  | ((with_reducible refine rd_atEn (xs := ?x1) ?h1 ?_); (case h1 => walk_at "hp"))
  | ((with_reducible refine rd_slT (xs := ?x1) ?h1 ?_); (case h1 => walk_at "hp"))
  | ((with_reducible refine rd_slL (xs := ?x1) ?h1 ?_); (case h1 => walk_at "hp"))
  | ((with_reducible refine rd_inN (N := ?x1) ?h1 ?_); (case h1 => walk_at "hp"))
  | ((with_reducible refine rd_inL (N := ?x1) ?h1 ?_); (case h1 => walk_at "hp"))
  | ((with_reducible refine rd_notInN (N := ?x1) ?h1 ?_); (case h1 => walk_at "hp"))
  | ((with_reducible refine rd_notInL (N := ?x1) ?h1 ?_); (case h1 => walk_at "hp"))
  | with_reducible refine rd_tm ?_
  | ((with_reducible refine rd_isF (xs := ?x1) ?h1 ?_); (case h1 => walk_at "fz"))
  | ((with_reducible refine rd_lenTq (xs := ?x1) ?h1 ?_); (case h1 => walk_at "sq"))
  | ((with_reducible refine rd_atTq (xs := ?x1) ?h1 ?_); (case h1 => walk_at "sq"))
  | ((with_reducible refine rd_atEnq (xs := ?x1) ?h1 ?_); (case h1 => walk_at "sq"))
  | ((with_reducible refine rd_slTq (xs := ?x1) ?h1 ?_); (case h1 => walk_at "sq"))
  | ((with_reducible refine rd_inNq (N := ?x1) ?h1 ?_); (case h1 => walk_at "sq"))
  | ((with_reducible refine rd_setL (xs := ?x1) (j := ?j1) ?h1 ?e1 ?_); (case h1 => walk_at "hp"); (case e1 => rfl))
  | with_reducible refine rd_int1 ?_
  | with_reducible refine rd_x1 ?_
  | with_reducible refine rd_x2 ?_
  | ((with_reducible refine rd_tyL (xs := ?x1) ?h1 ?_); (case h1 => walk_at "hp"))
  | ((with_reducible refine rd_ixsL (xs := ?x1) (v := ?v1) ?h1 ?e1 ?_); (case h1 => walk_at "hp"); (case e1 => rfl))
  | ((with_reducible refine rd_ixsT (xs := ?x1) (v := ?v1) ?h1 ?e1 ?_); (case h1 => walk_at "hp"); (case e1 => rfl))
  | ((with_reducible refine rd_I ?c1 ?_); (case c1 => walk_at "ic"))
  | ((with_reducible refine if_t ?hb1 ?_); (case hb1 => rfl))
  | ((with_reducible refine if_f ?hb1 ?_); (case hb1 => rfl)))
local macro_rules | `(tactic| walk_at "go") => `(tactic| repeat (first | walk_at "st" | dsimp only))
section
variable {P : Program} {w : World} {K : Frag} {mg : Str → Option Value} {base : Heap}

abbrev N_L_arcs : List Str := ["_law_shape_here", "_law_thing", "_law_each"]
theorem sc_L_arcs : FnScope N_L_arcs ["_law_shape_here", "_law_thing"] (defScope s_L_arcs) := ⟨rfl, rfl, rfl, by decide +kernel, rfl, by decide +kernel, by decide +kernel⟩
def OptArcsL (H : Hp) (x : V) : Option (List Rl) → Prop
  | none => x = .non
  | some rs => ∃ l as, x = .ref l ∧ H l = some (.lst (as.map V.ref)) ∧ PtAt endsL H as rs
def sp_Larcs : Sp := fun vs H Q _ => ∃ p v, ∃ N : List Str, ∃ R Nn d, vs = [.ref p, v] ∧ ShapeAt H p N R ∧ R.length ≤ 9 ∧ Da Nn H v d ∧ (∀ ds, d = .tuple ds → ds.length ≤ 1000) ∧ ∀ H' x, Same H H' → OptArcsL H' x (spotsR R d) → Q x H'
theorem c_L_arcs (S : Sys K mg) : C8.Cal P w K mg base 2 "_law_arcs" sp_Larcs [] := by
  refine calD S.f_D_L_arcs S.g_L_arcs sc_L_arcs (fun _ _ _ _ _ _ us hl => match us, hl with | [_, _], _ => rfl) ?_ ?_
  · rintro vs H Q E ⟨_, _, _, _, _, _, rfl, _⟩
    rfl
  · rintro cdv A outer s H vs Q E hr ⟨p, v, N, R, Nn, d, rfl, ⟨pf, pr, as, h1, h2, h3, h4⟩, r9, hd, hl, q⟩
    refine ⟨_, pss_cons (ps_if (pt_not (pt_val (pe_callB (call_isiC (K := K) rfl) (by rfl) S.n_isinstance (by decide +kernel) (pa_cons (pv 1) (pa_cons (pe_bltn (v := .ty "tuple") (by rfl) S.n_tuple (by decide +kernel) rfl) pa_nil))))) (pss_one (ps_ret pe_non)) pss_nil)
      (pss_cons (ps_for PassesOwn.never rfl (pi_tupC (K := K) rfl (pv 1)) (pg_name (i := 2) sc_L_arcs.nd rfl (Or.inl rfl))
        (pss_one (ps_if (PW.pt (pw_or (pt_not (pt_val (pe_callB (call_isiC (K := K) rfl) (by rfl) S.n_isinstance (by decide +kernel) (pa_cons (pv 2) (pa_cons (pe_bltn (v := .ty "int") (by rfl) S.n_int (by decide +kernel) rfl) pa_nil))))) (pw_or (pt_val (pe_callB (call_isiC (K := K) rfl) (by rfl) S.n_isinstance (by decide +kernel) (pa_cons (pv 2) (pa_cons (pe_bltn (v := .ty "bool") (by rfl) S.n_bool (by decide +kernel) rfl) pa_nil)))) (pw_or1 (pt_not (pt_chain op_le op_lt pe_int (pv 2) (pe_callB (call_len_seqC (K := K) rfl) (by rfl) S.n_len (by decide +kernel) (pa_cons (pe_ix (ix_tupC (K := K) rfl) (pv 0) pe_int (fun _ _ => rfl)) pa_nil)))))))) (pss_one (ps_ret pe_non)) pss_nil)))
      (pss_one (ps_ret (pe_lc (own := [("_law_each", 2)]) (g := gName 2) (tt := tYes) rfl sc_L_arcs.nd (pi_tupC (K := K) rfl (pv 1)) (blkOk_by (N := N_L_arcs) (sc := defScope s_L_arcs) (by decide +kernel)) (fun _ _ _ _ _ => (pg_name (i := 2) sc_L_arcs.nd rfl (Or.inl rfl))) (fun _ _ _ _ _ => pts_nil) (fun _ _ _ _ _ => (C8.pe_c (c_L_ends (K := K) S) hr (by decide) rfl (pa_cons (pe_ix (ix_tupC (K := K) rfl) (pe_ix (ix_tupC (K := K) rfl) (pv 0) pe_int (fun _ _ => rfl)) (pv 2) (fun _ _ => rfl)) pa_nil))))))), ?_⟩
    walk_at "go"
    refine ifb (fun h => ?_) fun h => ?_
    · have e : spotsR R d = none := by cases d <;> first | rfl | cases h
      walk_at "go"
      exact q _ _ (Same.refl _) (by rw [e] <;> rfl)
    · cases d with
      | tuple ds =>
        obtain ⟨a, xs, rfl, ha, hda⟩ := hd.tupInv
        have hlen := hda.len
        have hl2 := hl ds rfl
        have no : (∃ d ∈ ds, btwD 0 ((R.length : Int) - 1) d = false) → spotsR R (.tuple ds) = none := fun ⟨d, hd, hb⟩ => by
          show (if ds.all _ = true then _ else none) = none
          rw [if_neg]
          intro z
          rw [List.all_eq_true.mp z d hd] at hb
          cases hb
        walk_at "go"
        refine forW (n := xs.length) (Y := YAt xs) walk_tup (fun j σ H1 => ∃ x2, σ = [some (.ref p), some (.ref a), x2] ∧ H1 = H ∧ ∀ d ∈ ds.take j, btwD 0 ((R.length : Int) - 1) d = true) ⟨_, rfl, rfl, fun d h => absurd h (by rw [List.take_zero]; exact List.not_mem_nil)⟩ (fun _ _ _ _ ⟨_, _, e, _⟩ => .inl (.inl (e ▸ ha))) (fun j x σ H1 H1' hj ⟨x2, eσ, eH, hb⟩ hY => ?_) fun σ H1 ⟨x2, eσ, eH, hb⟩ => ?_
        · obtain ⟨rfl, hx⟩ := hY
          subst eσ
          subst eH
          obtain ⟨dx, g1, g2⟩ := hda.get hx
          have dm := List.mem_of_getElem? g1
          have tk : ds.take (j + 1) = ds.take j ++ [dx] := by
            rw [List.take_add_one, g1] <;> rfl
          walk_at "go"
          refine ifb (fun h => ?_) fun h => ?_
          · walk_at "go"
            refine q _ _ (Same.refl _) ?_
            rw [no ⟨dx, dm, by cases dx <;> first | rfl | cases h⟩] <;> rfl
          walk_at "go"
          refine ifb (fun h' => ?_) fun h' => ?_
          · walk_at "go"
            refine q _ _ (Same.refl _) ?_
            rw [no ⟨dx, dm, by cases dx <;> first | rfl | cases h'⟩] <;> rfl
          cases dx with
          | int i =>
            cases g2
            have eb : btwD 0 ((R.length : Int) - 1) (.int i) = (decide (0 ≤ i) && decide (i ≤ (R.length : Int) - 1)) := rfl
            walk_at "go"
            refine ifb (fun h5 => ?_) fun h5 => ?_
            · walk_at "go"
              rw [List.length_map, h4.1]
              refine ifb (fun h6 => ?_) fun h6 => ?_
              · walk_at "go"
                refine q _ _ (Same.refl _) ?_
                rw [no ⟨_, dm, by
                  have h6 : decide (i < (R.length : Int)) = false := by simpa using h6
                  have := of_decide_eq_false h6
                  rw [eb, decide_eq_false (by omega : ¬ i ≤ (R.length : Int) - 1), Bool.and_false]⟩] <;> rfl
              · walk_at "go"
                refine ⟨_, rfl, rfl, fun d hd' => ?_⟩
                rw [tk] at hd'
                rcases List.mem_append.mp hd' with h7 | h7
                · exact hb d h7
                · rw [List.mem_singleton.mp h7, eb, h5]
                  have h6 : decide (i < (R.length : Int)) = true := by simpa using h6
                  have := of_decide_eq_true h6
                  rw [decide_eq_true (by omega : i ≤ (R.length : Int) - 1)] <;> rfl
            · walk_at "go"
              refine q _ _ (Same.refl _) ?_
              rw [no ⟨_, dm, by rw [eb, h5, Bool.false_and]⟩] <;> rfl
          | bool b => cases h'
          | _ => cases h
        · subst eσ
          subst eH
          rw [List.take_of_length_le (by omega)] at hb
          have hsp : spotsR R (.tuple ds) = some (ds.map (rAt R)) := if_pos (List.all_eq_true.mpr hb)
          walk_at "go"
          refine lcW (n := xs.length) (Y := YAt xs) walk_tup (fun j acc H2 => ∃ bs : List Addr, acc = bs.map V.ref ∧ PtAt endsL H2 bs ((ds.map (rAt R)).take j)) (fun _ _ _ _ t ⟨bs, a, b⟩ => ⟨bs, a, b.tk t⟩) ⟨[], rfl, PtAt.nil⟩ (by omega) (fun H2 s2 => .inl (.inl (s2 _ _ ha))) (fun j x acc H2 H2' hj s2 f l hY Qy Qn hQ _ => ?_) fun L2 H2 acc hL2 s2 e3 f _ => ?_
          · obtain ⟨rfl, hx⟩ := hY
            obtain ⟨dx, g1, g2⟩ := hda.get hx
            obtain ⟨i, rfl, hi, hri, hrm⟩ := rAt_mem (hb dx (List.mem_of_getElem? g1))
            cases g2
            obtain ⟨bs, rfl, f⟩ := f
            have hi2 : i < (as.map V.ref).length := by rw [List.length_map, h4.1]; exact hi
            obtain ⟨b, r, eb, hb1, hb2, hb3⟩ := h4.get (List.getElem?_eq_getElem hi2)
            rw [hri] at hb2
            cases hb2
            have g3 := s2 _ _ h3
            walk_at "go"
            refine rd_ixT g3 (atI_nat (List.getElem?_eq_getElem hi2)) ?_
            rw [eb]
            walk_at "go"
            refine ⟨b, rAt R (.int i), rfl, s2 _ _ hb3, fun H3 p3 s3 e4 => ?_⟩
            refine hQ _ _ s3 ⟨bs ++ [p3], by rw [List.map_append] <;> rfl, ?_⟩
            rw [List.take_add_one, List.getElem?_map, g1]
            exact (f.same s3).snoc e4
          · obtain ⟨bs, rfl, f⟩ := f
            rw [List.take_of_length_le (by rw [List.length_map]; omega)] at f
            refine q _ _ s2 ?_
            rw [hsp]
            exact ⟨L2, bs, rfl, e3, f⟩
      | _ => cases h
abbrev N_L_ring_sum : List Str := ["_law_shape_here", "_law_thing", "_law_arcs_here", "_law_arc", "_law_k"]
theorem sc_L_ring_sum : FnScope N_L_ring_sum ["_law_shape_here", "_law_thing"] (defScope s_L_ring_sum) := ⟨rfl, rfl, rfl, by decide +kernel, rfl, by decide +kernel, by decide +kernel⟩
def prevK (n k : Nat) : Nat := if k = 0 then n - 1 else k - 1
theorem ring_eq (rs : List Rl) (h2 : 2 ≤ rs.length) : ringB rs = (decide (rs.map Rl.hi).Nodup && (List.range rs.length).all fun k => decide (hiAt rs (prevK rs.length k) = loAt rs k)) := by
  have e : ((List.range rs.length).all fun k => decide (hiAt rs (prevK rs.length k) = loAt rs k)) = (joinB rs && decide (hiAt rs (rs.length - 1) = loAt rs 0)) := by
    refine Bool.eq_iff_iff.mpr ?_
    rw [Bool.and_eq_true, List.all_eq_true, joinB, List.all_eq_true, decide_eq_true_eq]
    constructor
    · intro h
      refine ⟨fun k hk => ?_, ?_⟩
      · have := h (k + 1) (List.mem_range.mpr (by have := List.mem_range.mp hk; omega))
        exact this
      · have := of_decide_eq_true (h 0 (List.mem_range.mpr (by omega)))
        exact this
    · rintro ⟨h1, h0⟩ k hk
      have hk := List.mem_range.mp hk
      cases k with
      | zero => exact decide_eq_true h0
      | succ k => exact h1 k (List.mem_range.mpr (by omega))
  rw [e]
  unfold ringB
  rw [decide_eq_true h2, Bool.true_and]
  generalize joinB rs = a
  generalize decide (hiAt rs (rs.length - 1) = loAt rs 0) = b
  generalize decide (rs.map Rl.hi).Nodup = c
  cases a <;> cases b <;> cases c <;> rfl
def ringV (R : List Rl) (d : PyData) : V := match ringD R d with
  | some rs => .int (rs.map Rl.bd).sum
  | none => .non
theorem ringV_some {R : List Rl} {d : PyData} {rs : List Rl} (h : spotsR R d = some rs) : ringV R d = if ringB rs = true then .int (rs.map Rl.bd).sum else .non := by
  unfold ringV ringD
  rw [h]
  show (match (if ringB rs = true then some rs else none) with | some rs => V.int (rs.map Rl.bd).sum | none => .non) = _
  by_cases g : ringB rs = true
  · rw [if_pos g, if_pos g]
  · rw [if_neg g, if_neg g]
theorem ringV_none {R : List Rl} {d : PyData} (h : spotsR R d = none) : ringV R d = .non := by
  unfold ringV ringD
  rw [h]
def sp_ring_sum : Sp := fun vs H Q _ => ∃ p v, ∃ N : List Str, ∃ R Nn d, vs = [.ref p, v] ∧ ShapeAt H p N R ∧ R.length ≤ 9 ∧ Da Nn H v d ∧ (∀ ds, d = .tuple ds → ds.length ≤ 1000) ∧ ∀ H', Same H H' → Q (ringV R d) H'
theorem c_L_ring_sum (S : Sys K mg) : C8.Cal P w K mg base 3 "_law_ring_sum" sp_ring_sum [] := by
  refine calD S.f_D_L_ring_sum S.g_L_ring_sum sc_L_ring_sum (fun _ _ _ _ _ _ us hl => match us, hl with | [_, _], _ => rfl) ?_ ?_
  · rintro vs H Q E ⟨_, _, _, _, _, _, rfl, _⟩
    rfl
  · rintro cdv A outer s H vs Q E hr ⟨p, v, N, R, Nn, d, rfl, sh, r9, hd, hl, q⟩
    refine ⟨_, pss_cons (ps_set (i := 2) sc_L_ring_sum.nd rfl (Or.inl rfl) (C8.pe_c (c_L_arcs (K := K) S) hr (by decide) rfl (pa_cons (pv 0) (pa_cons (pv 1) pa_nil))))
      (pss_cons (ps_if (PW.pt (pw_or (pt_cmpR op_isN (pv 2) pe_non (nomark _)) (pw_or (pt_cmpR op_lt (pe_callB (call_len_seqC (K := K) rfl) (by rfl) S.n_len (by decide +kernel) (pa_cons (pv 2) pa_nil)) pe_int (nomark _)) (pw_or1 (pt_cmpR op_lt (pe_lenSetS (K := K) rfl rfl (by rfl) S.n_len (by rfl) S.n_set (pe_lc (own := [("_law_arc", 3)]) (g := gName 3) (tt := tYes) rfl sc_L_ring_sum.nd (pi_listC (K := K) rfl (pv 2)) (blkOk_by (N := N_L_ring_sum) (sc := defScope s_L_ring_sum) (by decide +kernel)) (fun _ _ _ _ _ => (pg_name (i := 3) sc_L_ring_sum.nd rfl (Or.inl rfl))) (fun _ _ _ _ _ => pts_nil) (fun _ _ _ _ _ => (pe_ix (ix_tupC (K := K) rfl) (pv 3) pe_int (fun _ _ => rfl))))) (pe_callB (call_len_seqC (K := K) rfl) (by rfl) S.n_len (by decide +kernel) (pa_cons (pv 2) pa_nil)) (nomark _)))))) (pss_one (ps_ret pe_non)) pss_nil)
      (pss_cons (ps_for PassesOwn.never rfl (pi_range1 (by rfl) S.n_range (pa_cons (pe_callB (call_len_seqC (K := K) rfl) (by rfl) S.n_len (by decide +kernel) (pa_cons (pv 2) pa_nil)) pa_nil)) (pg_name (i := 4) sc_L_ring_sum.nd rfl (Or.inl rfl))
        (pss_one (ps_if (pt_cmpR op_ne (pe_ix (ix_tupC (K := K) rfl) (pe_ix (ix_listC (K := K) rfl) (pv 2) (pe_op op_sub (pv 4) pe_int) (fun _ _ => rfl)) pe_int (fun _ _ => rfl)) (pe_ix (ix_tupC (K := K) rfl) (pe_ix (ix_listC (K := K) rfl) (pv 2) (pv 4) (fun _ _ => rfl)) pe_int (fun _ _ => rfl)) (nomark _)) (pss_one (ps_ret pe_non)) pss_nil)))
      (pss_one (ps_ret (pe_callB (cr_sumC (K := K) rfl rfl) (by rfl) S.n_sum (by decide +kernel) (pa_cons (pe_lc (own := [("_law_arc", 3)]) (g := gName 3) (tt := tYes) rfl sc_L_ring_sum.nd (pi_listC (K := K) rfl (pv 2)) (blkOk_by (N := N_L_ring_sum) (sc := defScope s_L_ring_sum) (by decide +kernel)) (fun _ _ _ _ _ => (pg_name (i := 3) sc_L_ring_sum.nd rfl (Or.inl rfl))) (fun _ _ _ _ _ => pts_nil) (fun _ _ _ _ _ => (pe_ix (ix_tupC (K := K) rfl) (pv 3) pe_int (fun _ _ => rfl)))) pa_nil)))))), ?_⟩
    walk_at "go"
    refine ⟨p, v, N, R, Nn, d, rfl, sh, r9, hd, hl, fun H1 x s1 hx => ?_⟩
    cases hs : spotsR R d with
    | none =>
      rw [ringV_none hs] at q
      rw [hs] at hx
      cases hx
      walk_at "go"
      exact q _ s1
    | some rs =>
      rw [ringV_some hs] at q
      rw [hs] at hx
      obtain ⟨l, as, rfl, hl1, pt⟩ := hx
      have rl := spots_len hs hl
      have ll := pt.len
      have no : ∀ {H2 : Hp}, Same H H2 → ringB rs = false → Q .non H2 := fun s e => by
        have := q _ s
        rw [if_neg (by rw [e]; exact Bool.false_ne_true)] at this
        exact this
      walk_at "go"
      rw [ll]
      refine ifb (fun h => ?_) fun h => ?_
      · walk_at "go"
        refine no s1 ?_
        have := of_decide_eq_true h
        unfold ringB
        rw [decide_eq_false (by omega), Bool.false_and]
      have h2 : 2 ≤ rs.length := by
        have := of_decide_eq_false h
        omega
      have re := ring_eq rs h2
      walk_at "go"
      refine lcM (n := rs.length) (G := fun H => SqL K H l (as.map V.ref)) (Y := YAt (as.map V.ref)) (ll ▸ walk_list) ((rs.map Rl.hi).map V.str) (by simp) (by omega) (fun H2 s => .inl (.inl (s _ _ hl1))) (fun j x H2 H2' y hj s hY hy Qy Qn hQ => ?_) fun L H2 hL s e => ?_
      · obtain ⟨rfl, hx⟩ := hY
        obtain ⟨b, r, rfl, hb1, hb2, hb3⟩ := (pt.same s).get hx
        rw [List.getElem?_map, List.getElem?_map, hb2] at hy
        cases hy
        unfold endsL at hb3
        walk_at "go"
        exact hQ _ (Same.refl _)
      have s12 := Same.trans s1 s
      have pt2 := pt.same s
      have hl2 := s _ _ hl1
      refine ⟨L, rs.map Rl.hi, rfl, .inl (.inl e), by rw [List.length_map]; omega, ?_⟩
      walk_at "go"
      have ec := cnt_lt (rs.map Rl.hi)
      rw [List.length_map] at ec
      rw [ll, ec]
      refine ifb (fun h => ?_) fun h => ?_
      · walk_at "go"
        refine no s12 ?_
        have hn : decide (rs.map Rl.hi).Nodup = false := by simpa using h
        rw [re, hn, Bool.false_and]
      have hn : decide (rs.map Rl.hi).Nodup = true := by simpa using h
      rw [hn, Bool.true_and] at re
      walk_at "go"
      rw [ll]
      refine ⟨by omega, by omega, ?_⟩
      refine forW (n := rs.length) walk_r0 (fun j σ H3 => ∃ x4, σ = [some (.ref p), some v, some (.ref l), none, x4] ∧ H3 = H2 ∧ ∀ k, k < j → hiAt rs (prevK rs.length k) = loAt rs k) ⟨_, rfl, rfl, fun k h => absurd h (Nat.not_lt_zero _)⟩ (fun _ _ _ _ _ => trivial) (fun j x σ H3 H3' hj ⟨x4, eσ, eH, hb⟩ hY => ?_) fun σ H3 ⟨x4, eσ, eH, hb⟩ => ?_
      · obtain ⟨rfl, rfl⟩ := hY
        subst eσ
        subst eH
        have hp : prevK rs.length j < rs.length := by
          unfold prevK
          by_cases h : j = 0
          · rw [if_pos h]
            omega
          · rw [if_neg h]
            omega
        have em : atI (as.map V.ref) ((j : Int) - 1) = (as.map V.ref)[prevK rs.length j]? := by
          unfold prevK
          cases j with
          | zero =>
            have e0 : as.map V.ref = (as.map V.ref).take (rs.length - 1) ++ [(as.map V.ref)[rs.length - 1]'(by omega)] := by
              have := List.take_append_getElem (l := as.map V.ref) (i := rs.length - 1) (by omega)
              rw [this, List.take_of_length_le (by omega)]
            have e1 := atI_last ((as.map V.ref).take (rs.length - 1)) ((as.map V.ref)[rs.length - 1]'(by omega))
            rw [← e0] at e1
            rw [if_pos rfl, List.getElem?_eq_getElem (by omega)]
            exact e1
          | succ j =>
            rw [if_neg (Nat.succ_ne_zero j)]
            have e1 : (((j + 1 : Nat) : Int) - 1) = ((j : Nat) : Int) := by omega
            rw [e1]
            have hj2 : j < (as.map V.ref).length := by omega
            show atI _ _ = (as.map V.ref)[j]?
            rw [List.getElem?_eq_getElem hj2]
            exact atI_nat (List.getElem?_eq_getElem hj2)
        obtain ⟨a, ea, ha⟩ := pt2.nth hp
        rw [ea] at em
        unfold endsL at ha
        walk_at "go"
        refine rd_ixL hl2 em ?_
        walk_at "go"
        refine pt2.ix hl2 hj fun b hb2 => ?_
        unfold endsL at hb2
        walk_at "go"
        rw [← hiAt_of hp, ← loAt_of hj]
        refine ifb (fun h => ?_) fun h => ?_
        · walk_at "go"
          refine no s12 ?_
          rw [re]
          refine Bool.eq_false_iff.mpr fun z => ?_
          have := List.all_eq_true.mp z j (List.mem_range.mpr hj)
          rw [this] at h
          cases h
        · walk_at "go"
          refine ⟨_, rfl, rfl, fun k hk => ?_⟩
          by_cases g : k = j
          · rw [g]
            have h : decide (hiAt rs (prevK rs.length j) = loAt rs j) = true := by simpa using h
            exact of_decide_eq_true h
          · exact hb k (by omega)
      · subst eσ
        subst eH
        have hr' : ringB rs = true := by
          rw [re]
          exact List.all_eq_true.mpr fun k hk => decide_eq_true (hb k (List.mem_range.mp hk))
        rw [if_pos hr'] at q
        walk_at "go"
        refine lcM (n := rs.length) (G := fun H => SqL K H l (as.map V.ref)) (Y := YAt (as.map V.ref)) (ll ▸ walk_list) ((rs.map Rl.bd).map V.int) (by simp) (by omega) (fun H4 s => .inl (.inl (s _ _ hl2))) (fun j x H4 H4' y hj s hY hy Qy Qn hQ => ?_) fun L4 H4 hL4 s4 e4 => ?_
        · obtain ⟨rfl, hx⟩ := hY
          obtain ⟨b, r, rfl, hb1, hb2, hb3⟩ := (pt2.same s).get hx
          rw [List.getElem?_map, List.getElem?_map, hb2] at hy
          cases hy
          unfold endsL at hb3
          walk_at "go"
          exact hQ _ (Same.refl _)
        · walk_at "go"
          exact ⟨L4, rs.map Rl.bd, rfl, .inl (.inl e4), q _ (Same.trans s12 s4)⟩
abbrev N_L_goes_on : List Str := ["_law_shape_here", "_law_heads", "_law_k", "_law_high", "_law_low", "_law_bound"]
theorem sc_L_goes_on : FnScope N_L_goes_on ["_law_shape_here", "_law_heads", "_law_k"] (defScope s_L_goes_on) := ⟨rfl, rfl, rfl, by decide +kernel, rfl, by decide +kernel, by decide +kernel⟩
def sp_goes : Sp := fun vs H Q _ => ∃ p L, ∃ k : Nat, ∃ N : List Str, ∃ R, ∃ hs : List Str, vs = [.ref p, .ref L, .int k] ∧ ShapeAt H p N R ∧ k < R.length ∧ H L = some (.lst (hs.map V.str)) ∧ hs ≠ [] ∧ ∀ H' b, Same H H' → Q (.bl b) H'
theorem c_L_goes_on (S : Sys K mg) : C8.Cal P w K mg base 2 "_law_goes_on" sp_goes [] := by
  refine calD S.f_D_L_goes_on S.g_L_goes_on sc_L_goes_on (fun _ _ _ _ _ _ us hl => match us, hl with | [_, _, _], _ => rfl) ?_ ?_
  · rintro vs H Q E ⟨_, _, _, _, _, _, rfl, _⟩
    rfl
  · rintro cdv A outer s H vs Q E hr ⟨p, L, k, N, R, hs, rfl, ⟨pf, pr, as, h1, h2, h3, h4⟩, hk, hL, hne, q⟩
    refine ⟨_, pss_cons (ps_asg (C8.pe_c (c_L_ends (K := K) S) hr (by decide) rfl (pa_cons (pe_ix (ix_tupC (K := K) rfl) (pe_ix (ix_tupC (K := K) rfl) (pv 0) pe_int (fun _ _ => rfl)) (pv 2) (fun _ _ => rfl)) pa_nil)) (pg_tupC (K := K) rfl rfl (pgs_cons (pg_name (i := 3) sc_L_goes_on.nd rfl (Or.inl rfl)) (pgs_cons (pg_name (i := 4) sc_L_goes_on.nd rfl (Or.inl rfl)) (pgs_cons (pg_name (i := 5) sc_L_goes_on.nd rfl (Or.inl rfl)) pgs_nil)))))
      (pss_one (ps_ret (pe_and (pe_cmpR op_eq (pv 4) (pe_ix (ix_listC (K := K) rfl) (pv 1) (pe_un un_neg pe_int) (fun _ _ => rfl)) (nomark _)) (pe_one (pe_cmpR (op_notIn_seqC (K := K) rfl) (pv 3) (pv 1) rfl))))), ?_⟩
    have hi2 : k < (as.map V.ref).length := by rw [List.length_map, h4.1]; exact hk
    obtain ⟨b, r, eb, hb1, hb2, hb3⟩ := h4.get (List.getElem?_eq_getElem hi2)
    walk_at "go"
    refine rd_ixT h3 (atI_nat (List.getElem?_eq_getElem hi2)) ?_
    rw [eb]
    walk_at "go"
    refine ⟨b, r, rfl, hb3, fun H1 p1 s1 e1 => ?_⟩
    unfold endsL at e1
    have hL1 := s1 _ _ hL
    have el : atI (hs.map V.str) (-1) = some (.str (hs.getLast hne)) := by
      have e0 : hs.map V.str = (hs.dropLast.map V.str) ++ [.str (hs.getLast hne)] := by
        have := List.dropLast_concat_getLast hne
        rw [show [V.str (hs.getLast hne)] = [hs.getLast hne].map V.str from rfl, ← List.map_append, this]
      rw [e0]
      exact atI_last _ _
    walk_at "go"
    refine rd_ixL hL1 el ?_
    walk_at "go"
    refine ifb (fun h => ?_) fun h => ?_
    · walk_at "go"
      exact q _ _ s1
    · exact q _ _ s1
end
end K59
/-! K59RevT -/
set_option Elab.async false
set_option linter.all false
set_option maxRecDepth 100000
set_option maxHeartbeats 4000000
namespace K59
open PySem PySem.W PySem.Calls PySem.Spec PyProof.Rows L2
/-! ### t[::-1] of a tuple -/
def revIx {α : Type} (xs : List α) : List α := (List.range xs.length).filterMap fun (m : Nat) => xs[(((xs.length : Int) - 1) + (m : Int) * (-1)).toNat]?
theorem revIx_len {α : Type} (xs : List α) : (revIx xs).length ≤ xs.length := by
  unfold revIx
  refine Nat.le_trans (List.length_filterMap_le _ _) ?_
  rw [List.length_range]
  exact Nat.le_refl _
theorem revIx_mem {α : Type} {xs : List α} {x : α} (h : x ∈ revIx xs) : x ∈ xs := by
  unfold revIx at h
  obtain ⟨m, _, e⟩ := List.mem_filterMap.mp h
  exact List.mem_of_getElem? e
theorem vals_pick {xs : List V} {us : List Value} (r : Vals xs us) (f : Nat → Nat) : ∀ (L : List Nat), Vals (L.filterMap fun m => xs[f m]?) (L.filterMap fun m => us[f m]?)
  | [] => .nil
  | m :: L => by
    have hl := r.length
    by_cases h : f m < xs.length
    · have e1 : xs[f m]? = some xs[f m] := List.getElem?_eq_getElem h
      obtain ⟨u, eu, ru⟩ := r.get e1
      rw [List.filterMap_cons_some (f := fun m => xs[f m]?) (a := m) e1, List.filterMap_cons_some (f := fun m => us[f m]?) (a := m) eu]
      exact .cons ru (vals_pick r f L)
    · have e1 : xs[f m]? = none := List.getElem?_eq_none (by omega)
      have e2 : us[f m]? = none := List.getElem?_eq_none (by omega)
      rw [List.filterMap_cons_none (f := fun m => xs[f m]?) (a := m) e1, List.filterMap_cons_none (f := fun m => us[f m]?) (a := m) e2]
      exact vals_pick r f L
section
variable {prog : Program} {w : World} {A : Around} {E : Value → Shared → Prop} {s : Shared}
theorem applied_rev {sl : Addr} {vl vu vs : Value} {n : Nat} {Q : Int × Int × Nat → Shared → Prop} (hs : s.heap.IsSliceOf sl vl vu vs) (pl : IsPart vl none) (pu : IsPart vu none) (ps : IsPart vs (some (-1))) (h : Q ((n : Int) - 1, -1, n) s) :
    wpAny (model prog w) A (Builtin.Slice.sliceApplied (.ref sl) (pure (n : Int))) Q E s := by
  obtain ⟨os, hos, hcs, hds⟩ := id hs
  unfold Builtin.Slice.sliceApplied Builtin.Slice.sliceFields
  refine wpAny_bind (wpAny_bind (wpAny_field hos hds (x := vl) rfl (wpAny_bind (wpAny_field hos hds (x := vu) rfl (wpAny_bind (wpAny_field hos hds (x := vs) rfl (wpAny_pure ?_)))))))
  refine wpAny_bind (HT.slicePart_ ps ?_)
  show wpAny _ _ (if ((-1 : Int) == 0) = true then _ else _) _ _ s
  rw [if_neg (by decide)]
  refine wpAny_bind (HT.slicePart_ pl (wpAny_bind (HT.slicePart_ pu (wpAny_bind (wpAny_pure ?_)))))
  have ep : Builtin.Slice.slicePlaces ((n : Int) - 1) (-1) (-1) = n := by
    unfold Builtin.Slice.slicePlaces
    rw [if_neg (by decide)]
    by_cases hn : (n : Int) - 1 > -1
    · rw [if_pos hn]
      have : ((n : Int) - 1 - -1 - 1) / (- -1) + 1 = n := by
        rw [show (- -1 : Int) = 1 from rfl, Int.ediv_one]
        omega
      rw [this, Int.toNat_natCast]
    · rw [if_neg hn]
      omega
  show wpAny _ _ (pure ((n : Int) - 1, (-1 : Int), Builtin.Slice.slicePlaces ((n : Int) - 1) (-1) (-1))) _ _ s
  rw [ep]
  exact wpAny_pure h
theorem getItem_rev {t sl : Addr} {items : Array Value} {vl vu vs : Value} {Q : Value → Shared → Prop} (ht : IsTup s.heap t items) (hs : s.heap.IsSliceOf sl vl vu vs) (pl : IsPart vl none) (pu : IsPart vu none) (ps : IsPart vs (some (-1)))
    (h : Q (.ref s.heap.objs.size) { s with heap := s.heap.push { cls := .type "tuple", data := .seq (revIx items.toList).toArray } }) (hsz : items.size ≤ sizeLine) : wpAny (model prog w) A (getItem (.ref t) (.ref sl)) Q E s := by
  have hok : sizeOk (.seq (revIx items.toList).toArray) := by
    show (revIx items.toList).toArray.size ≤ sizeLine
    rw [List.size_toArray]
    exact Nat.le_trans (revIx_len _) (by rw [Array.length_toList]; exact hsz)
  obtain ⟨os, hos, hcs, hds⟩ := id hs
  have hTs : s.TypeIs (.ref sl) "slice" := ⟨os, hos, hcs⟩
  unfold getItem
  try with_reducible refine wpAny_holding ?_
  first | refine wpAny_bind (wpAny_pure ?_) | skip
  refine wpAny_bind (wpAny_sequenceKey ht.typeIs (by decide) (wpAny_bind (wpAny_callSpecial?_slot (name := Str.ofString "__getitem__") ht.typeIs PyProof.Rows.slot_tuple_getitem (wpAny_call_entry PyProof.Rows.slot_tuple_getitem ht.typeIs entry_tuple_getitem ?_ (args_tuple_getitem _ _)))))
  refine (show wpAny _ _ (Builtin.Tuple.tupleItemsOf (.ref t) >>= _) _ _ s from wpAny_bind (tupleItemsOf_ ht (wpAny_bind (wpAny_typeOf hTs ?_))))
  rw [if_pos (by decide)]
  refine wpAny_bind (applied_rev hs pl pu ps ?_)
  have hno : ¬ (((items.size : Int) - 1 == 0 && (-1 : Int) == 1 && items.size == items.size) = true) := by
    intro q
    rw [Bool.and_eq_true, Bool.and_eq_true] at q
    exact absurd (eq_of_beq q.1.2) (by decide)
  show wpAny _ _ (if ((items.size : Int) - 1 == 0 && (-1 : Int) == 1 && items.size == items.size) = true then _ else _) _ _ s
  rw [if_neg hno]
  have ea : ((List.range items.size).filterMap fun (m : Nat) => items[(((items.size : Int) - 1) + (m : Int) * (-1)).toNat]?).toArray = (revIx items.toList).toArray := by
    unfold revIx
    rw [Array.length_toList]
    simp only [Array.getElem?_toList]
  first
    | (rw [ea]; exact wpAny_bind (m := Builtin.Tuple.tupleExact _) (wpAny_newObj_type (wpAny_pure ⟨_, rfl, wpAny_pure h⟩) hok))
    | (rw [ea]; exact wpAny_bind (m := Builtin.Tuple.tupleExact _) (wpAny_newObj_type (wpAny_bind (wpAny_pure (wpAny_pure ⟨_, rfl, wpAny_pure h⟩))) hok))
    | (rw [ea]; exact wpAny_bind (wpAny_bind (m := Builtin.Tuple.tupleExact _) (wpAny_newObj_type (wpAny_pure (wpAny_pure ⟨_, rfl, wpAny_pure h⟩)) hok)))
    | (rw [ea]; exact wpAny_bind (wpAny_bind (m := Builtin.Tuple.tupleExact _) (wpAny_newObj_type (wpAny_pure ⟨_, rfl, wpAny_pure h⟩) hok)))
end
section
variable {X : Cx} {K : Frag}
def rRevT (K : Frag) : V → Hp → VK → Prop := fun x H1 Q => ∃ a xs, x = .ref a ∧ SqT K H1 a xs ∧ ∀ p, H1 p = none → Q (.ref p) (upd H1 p (.tup (revIx xs)))
theorem pe_revT {e : Expr} {te : TE} {k : Nat} {p1 p2 p3 pos : Pos} (hK : X.K = K) (he : PE X e te) : PE X (.Subscript e (.Slice none none (some (.UnaryOp .USub (.Constant (.int 1) k p1) p2)) p3) pos) (tUn (rRevT K) te) := by
  subst hK
  refine ⟨fun pins s σ H Q I h => ?_⟩
  refine Subscript_ (thn (he.run pins s σ H _ I h) fun v sa ⟨x, H1, I1, r1, a, xs, ex, hx, q⟩ => ?_)
  subst ex
  cases r1
  have hst : PO X (some (.UnaryOp .USub (.Constant (.int 1) k p1) p2)) (tPart (tUn (rU fun i => .int (-i)) (tC (.int 1)))) := po_some (pe_un un_neg pe_int)
  refine wpAny_Slice (thn (po_none.run pins sa σ H1 (fun o H2 => o = none ∧ H2 = H1) I1 ⟨rfl, rfl⟩) fun vl sb ⟨l, H2, I2, pl, el, e2⟩ => ?_)
  subst el e2
  refine thn (po_none.run pins sb σ H2 (fun o H3 => o = none ∧ H3 = H2) I2 ⟨rfl, rfl⟩) fun vu sc ⟨u, H3, I3, pu, eu, e3⟩ => thn (hst.run pins sc σ H3 (fun o H4 => o = some (-1) ∧ H4 = H3) (e3 ▸ I3) ⟨1, rfl, -1, rfl, rfl, rfl⟩) fun vs sd ⟨o, H4, I4, ps, eo, e4⟩ => ?_
  subst eu e3 eo e4
  have I5 : Inv X pins σ H4 { sd with heap := sd.heap.push { cls := .type "slice", data := .fields #[vl, vu, vs] } } := I4.kept (t' := sd.toks) fun b ob q => Heap.get?_push_of_some _ q
  obtain ⟨its, r, ht, hz⟩ := I5.tuple hx
  have hlen := r.length
  refine tail_any (ops := [.ref a, .ref sd.heap.objs.size]) ht.typeIs (PyProof.Rows.slot_tuple_getitem.lookup) ?_ (by with_unfolding_all rfl)
  refine getItem_rev ht (Heap.IsSliceOf.new _ vl vu vs) pl pu ps ?_ (by rw [List.size_toArray]; omega)
  have hv : Vals (revIx xs) (revIx its) := by
    unfold revIx
    rw [← hlen]
    exact vals_pick r (fun m => (((xs.length : Int) - 1) + (m : Int) * (-1)).toNat) _
  refine ⟨.ref _, _, I5.laid (t' := sd.toks) (o := .tup (revIx xs)) (fun b ob q => Heap.get?_push_of_some _ q) (Nat.le_refl _) ?_, rfl, q _ (I5.hok.fresh (Nat.le_refl _))⟩
  exact ⟨Nat.le_trans (revIx_len xs) hz, _, hv, IsTup.new _ _⟩
end
end K59
/-! K59L12 -/
set_option Elab.async false
set_option linter.all false
set_option maxRecDepth 100000
set_option maxHeartbeats 4000000
namespace K59
open PySem PySem.W PySem.Calls PySem.Spec PyProof.Rows L2
local macro_rules | `(tactic| walk_at "hp") => `(tactic| first
  | assumption
  | exact upd_same
  | (refine same_new (by assumption) _ _ ?_; walk_at "hp")
  | (refine (by assumption : Same _ _) _ _ ?_; walk_at "hp")
  | (refine FK.tk (by assumption) (by assumption) _ _ ?_; walk_at "hp"))
local macro_rules | `(tactic| walk_at "sq") => `(tactic| first
  | assumption
  | exact FrzT.sq (by assumption)
  | (refine sqt_new (by assumption) ?_; walk_at "sq")
  | (refine sqt_same ?_ (by assumption); walk_at "sq"))
local macro_rules | `(tactic| walk_at "fz") => `(tactic| first
  | assumption
  | (refine frz_new (by assumption) ?_; walk_at "fz")
  | (refine FrzT.same ?_ (by assumption); walk_at "fz"))
local macro_rules | `(tactic| walk_at "ic") => `(tactic| first
  | ((with_reducible show (0 : Int) < _); decide)
  | exact Or.inl ⟨by decide, by decide⟩
  | exact Or.inr ⟨by decide, by decide⟩
  | exact (show (0 : Int) < _ ∧ _ < (1073741824 : Int) from ⟨by decide, by decide⟩)
  | exact (show (0 : Int) ≤ _ ∧ _ ≤ (1000000 : Int) ∧ Int.natAbs _ < 2 ^ 64 from ⟨by decide, by decide, by decide⟩)
  | exact (⟨by decide, by decide, by decide⟩ : _ ∧ _ ∧ _))
local macro_rules | `(tactic| walk_at "st") => `(tactic| first
  | with_reducible refine rd_var rfl ?_
  | with_reducible refine rd_c ?_
  | with_reducible refine rd_cons ?_
  | with_reducible refine rd_nil ?_
  | with_reducible refine rd_op ?_
  | with_reducible refine rd_cb ?_
  | with_reducible refine rd_call ?_
  | with_reducible refine rd_test ?_
  | with_reducible refine rd_B ?_
  | with_reducible refine rd_bl ?_
  | with_reducible refine rd_un ?_
  | with_reducible refine rd_and ?_
  | with_reducible refine rd_or ?_
  | with_reducible refine rd_not ?_
  | with_reducible refine rd_andV ?_
  | with_reducible refine rd_orV ?_
  | with_reducible refine rd_notV ?_
  | with_reducible refine rd_if ?_
  | with_reducible refine rd_chain ?_
  | with_reducible refine rd_I0 ?_
  | with_reducible refine rd_U ?_
  | with_reducible refine rd_eqI ?_
  | with_reducible refine rd_neI ?_
  | with_reducible refine rd_eqS ?_
  | with_reducible refine rd_neS ?_
  | with_reducible refine rd_nn ?_
  | with_reducible refine rd_asg ?_
  | with_reducible refine rd_gname ?_
  | with_reducible refine rd_seq ?_
  | with_reducible refine rd_ifS ?_
  | with_reducible refine rd_ret ?_
  | with_reducible refine rd_next ?_
  | with_reducible refine rd_cont ?_
  | with_reducible refine rd_drop ?_
  | with_reducible refine rd_par ?_
  | with_reducible refine rd_vs2 ?_
  | with_reducible refine rd_gsub ?_
  | with_reducible refine rd_gcons ?_
  | with_reducible refine rd_gnil ?_
  | with_reducible refine rd_tup ?_
  | with_reducible refine rd_lst ?_
  | with_reducible refine rd_sl ?_
  | with_reducible refine rd_part ?_
  | with_reducible refine rd_nopart ?_
  | with_reducible refine rd_i1 ?_
  | with_reducible refine rd_bm ?_
  | with_reducible refine rd_yes ?_
  | with_reducible refine rd_lcT ?_
  | with_reducible refine rd_lcL ?_
  | with_reducible refine rd_lcR1 ?_
  | with_reducible refine rd_lcS ?_
  | with_reducible refine rd_forT ?_
  | with_reducible refine rd_forL ?_
  | with_reducible refine rd_forR1 ?_
  | with_reducible refine rd_atS ?_
  | with_reducible refine rd_forEn ?_
  | with_reducible refine rd_dget ?_
  | with_reducible refine rd_din ?_
  | with_reducible refine rd_dget2 ?_
  | with_reducible refine rd_dput ?_
  | with_reducible refine rd_disp ?_
  | with_reducible refine rd_pcons ?_
  | with_reducible refine rd_pnil ?_
  | with_reducible refine rd_dcL ?_
  | with_reducible refine rd_lcEn ?_
  | with_reducible refine rd_yS ?_
  | with_reducible refine rd_m1 ?_
  | with_reducible refine rd_meth ?_
  | with_reducible refine rd_fld ?_
  | with_reducible refine rd_sfld ?_
  | with_reducible refine rd_make ?_
  | with_reducible refine rd_fmt ?_
  | with_reducible refine rd_js ?_
  | with_reducible refine rd_js0 ?_
  | with_reducible refine iteT ?_
  | with_reducible refine iteF ?_
  | ((with_reducible refine isi_int (d := ?d1) (N := ?n1) ?h1 ?_); (case h1 => assumption))
  | ((with_reducible refine isi_bool (d := ?d1) (N := ?n1) ?h1 ?_); (case h1 => assumption))
  | ((with_reducible refine isi_str (d := ?d1) (N := ?n1) ?h1 ?_); (case h1 => assumption))
  | ((with_reducible refine isi_tuple (d := ?d1) (N := ?n1) ?h1 ?_); (case h1 => assumption))
  | with_reducible refine isi_str (N := fun _ => True) (Da.str _) ?_
  | with_reducible refine isi_int (N := fun _ => True) (Da.int _) ?_
  | with_reducible refine isi_bool (N := fun _ => True) (Da.int _) ?_
  | with_reducible refine isi_str (N := fun _ => True) (Da.int _) ?_
  | ((with_reducible show (wipe _ _ = wipe _ _) ∧ _); refine ⟨rfl, ?_⟩)
  | ((with_reducible show Ends.nx _ _ _); dsimp only)
  | ((with_reducible show Ends.rt _ _ _); dsimp only)
  | ((with_reducible show Ends.ct _ _ _); dsimp only)
  | ((with_reducible refine rd_ixT (xs := ?x1) (v := ?v1) ?h1 ?e1 ?_); (case h1 => walk_at "hp"); (case e1 => rfl))
  | ((with_reducible refine rd_ixL (xs := ?x1) (v := ?v1) ?h1 ?e1 ?_); (case h1 => walk_at "hp"); (case e1 => rfl))
  | ((with_reducible refine rd_lenT (xs := ?x1) ?h1 ?_); (case h1 => walk_at "hp"))
  | ((with_reducible refine rd_lenL (xs := ?x1) ?h1 ?_); (case h1 => walk_at "hp"))
  | ((with_reducible refine rd_tupOf (xs := ?x1) ?h1 ?_); (case h1 => walk_at "hp"))
  | ((with_reducible refine rd_all (bs := ?x1) ?h1 ?_); (case h1 => walk_at "hp"))
  | ((with_reducible refine rd_atT (xs := ?x1) ?h1 ?_); (case h1 => walk_at "hp"))
  | ((with_reducible refine rd_atL (xs := ?x1) ?h1 ?_); (case h1 => walk_at "hp"))
  | ((with_reducible refine rd_gtup (xs := ?x1) ?h1 ?e1 ?_); (case h1 => walk_at "hp"); (case e1 => rfl))
  | ((with_reducible refine rd_atEn (xs := ?x1) ?h1 ?_); (case h1 => walk_at "hp"))
  | ((with_reducible refine rd_slT (xs := ?x1) ?h1 ?_); (case h1 => walk_at "hp"))
  | ((with_reducible refine rd_slL (xs := ?x1) ?h1 ?_); (case h1 => walk_at "hp"))
  | ((with_reducible refine rd_inN (N := ?x1) ?h1 ?_); (case h1 => walk_at "hp"))
  | ((with_reducible refine rd_inL (N := ?x1) ?h1 ?_); (case h1 => walk_at "hp"))
  | ((with_reducible refine rd_notInN (N := ?x1) ?h1 ?_); (case h1 => walk_at "hp"))
  | ((with_reducible refine rd_notInL (N := ?x1) ?h1 ?_); (case h1 => walk_at "hp"))
  | with_reducible refine rd_tm ?_
  | ((with_reducible refine rd_isF (xs := ?x1) ?h1 ?_); (case h1 => walk_at "fz"))
  | ((with_reducible refine rd_lenTq (xs := ?x1) ?h1 ?_); (case h1 => walk_at "sq"))
  | ((with_reducible refine rd_atTq (xs := ?x1) ?h1 ?_); (case h1 => walk_at "sq"))
  | ((with_reducible refine rd_atEnq (xs := ?x1) ?h1 ?_); (case h1 => walk_at "sq"))
  | ((with_reducible refine rd_slTq (xs := ?x1) ?h1 ?_); (case h1 => walk_at "sq"))
  | ((with_reducible refine rd_inNq (N := ?x1) ?h1 ?_); (case h1 => walk_at "sq"))
  | ((with_reducible refine rd_setL (xs := ?x1) (j := ?j1) ?h1 ?e1 ?_); (case h1 => walk_at "hp"); (case e1 => rfl))
  | with_reducible refine rd_int1 ?_
  | with_reducible refine rd_x1 ?_
  | with_reducible refine rd_x2 ?_
  | ((with_reducible refine rd_tyL (xs := ?x1) ?h1 ?_); (case h1 => walk_at "hp"))
  | ((with_reducible refine rd_ixsL (xs := ?x1) (v := ?v1) ?h1 ?e1 ?_); (case h1 => walk_at "hp"); (case e1 => rfl))
  | ((with_reducible refine rd_ixsT (xs := ?x1) (v := ?v1) ?h1 ?e1 ?_); (case h1 => walk_at "hp"); (case e1 => rfl))
  | ((with_reducible refine rd_I ?c1 ?_); (case c1 => walk_at "ic"))
  | ((with_reducible refine if_t ?hb1 ?_); (case hb1 => rfl))
  | ((with_reducible refine if_f ?hb1 ?_); (case hb1 => rfl)))
local macro_rules | `(tactic| walk_at "go") => `(tactic| repeat (first | walk_at "st" | dsimp only))
section
variable {P : Program} {w : World} {K : Frag} {mg : Str → Option Value} {base : Heap}

/-! ### lists of data -/
/-- not too long -/
def ShD (d : PyData) : Prop := ∀ es, d = .tuple es → es.length ≤ 100
def AllDa (F : Addr) (H : Hp) (xs : List V) : Prop := ∀ x ∈ xs, ∃ d, Da (· ≠ F) H x d ∧ ShD d
theorem AllDa.all {F : Addr} {H : Hp} : ∀ {xs : List V}, AllDa F H xs → ∃ ds, DaAll (· ≠ F) H xs ds ∧ ds.length = xs.length ∧ ∀ d ∈ ds, ShD d
  | [], _ => ⟨[], .nil, rfl, fun d h => by cases h⟩
  | x :: xs, h => by
    obtain ⟨d, hd, sd⟩ := h x List.mem_cons_self
    obtain ⟨ds, a, b, c⟩ := AllDa.all (xs := xs) fun y hy => h y (List.mem_cons_of_mem _ hy)
    exact ⟨d :: ds, .cons hd a, by rw [List.length_cons, List.length_cons, b], fun e he => (List.mem_cons.mp he).elim (fun z => z ▸ sd) (c e)⟩
theorem AllDa.app {F : Addr} {H : Hp} {xs ys : List V} (h : AllDa F H xs) (g : AllDa F H ys) : AllDa F H (xs ++ ys) := fun x hx => (List.mem_append.mp hx).elim (h x) (g x)
theorem AllDa.same {F : Addr} {H H' : Hp} {xs : List V} (h : AllDa F H xs) (s : Same H H') : AllDa F H' xs := fun x hx => let ⟨d, hd, sd⟩ := h x hx; ⟨d, hd.same s, sd⟩
theorem cut_mem {xs : List V} {lo hi : Option Int} {x : V} (h : x ∈ cutV xs lo hi) : x ∈ xs := by
  unfold cutV at h
  exact List.mem_of_mem_drop (List.mem_of_mem_take h)
theorem AllDa.cut {F : Addr} {H : Hp} {xs : List V} {lo hi : Option Int} (h : AllDa F H xs) : AllDa F H (cutV xs lo hi) := fun x hx => h x (cut_mem hx)
theorem AllDa.ints {F : Addr} {H : Hp} {ns : List Int} : AllDa F H (ns.map V.int) := fun x hx => by
  obtain ⟨i, _, rfl⟩ := List.mem_map.mp hx
  exact ⟨_, .int i, fun _ z => by cases z⟩
/-- data that may be a paper's part: not too long -/
def DaS (F : Addr) (H : Hp) (v : V) : Prop := ∃ d, Da (· ≠ F) H v d ∧ ∀ ds, d = .tuple ds → ds.length ≤ 100 ∧ ∀ e ∈ ds, ShD e
theorem DaS.tup {F : Addr} {H : Hp} {p : Addr} {xs : List V} (e : H p = some (.tup xs)) (h : AllDa F H xs) (l : xs.length ≤ 100) : DaS F H (.ref p) := by
  obtain ⟨ds, a, b, c⟩ := h.all
  exact ⟨.tuple ds, .tup e a, fun ds' z => by cases z; exact ⟨by omega, c⟩⟩
theorem DaS.same {F : Addr} {H H' : Hp} {v : V} (h : DaS F H v) (s : Same H H') : DaS F H' v := let ⟨d, a, b⟩ := h; ⟨d, a.same s, b⟩
theorem DaS.fk {F : Addr} {H H' : Hp} {v : V} (h : DaS F H v) (s : FK F H H') (fl : Fl H F) : DaS F H' v := let ⟨d, a, b⟩ := h; ⟨d, a.fk s fl, b⟩
theorem DaS.flat {F : Addr} {H : Hp} {v : V} (h : v = .non ∨ (∃ b, v = .bl b) ∨ (∃ i, v = .int i) ∨ ∃ z, v = .str z) : DaS F H v := by
  rcases h with rfl | ⟨b, rfl⟩ | ⟨i, rfl⟩ | ⟨z, rfl⟩
  · exact ⟨_, .non, fun ds z => by cases z⟩
  · exact ⟨_, .bl b, fun ds z => by cases z⟩
  · exact ⟨_, .int i, fun ds z => by cases z⟩
  · exact ⟨_, .str z, fun ds z => by cases z⟩
theorem DaS.ex {F : Addr} {H : Hp} {v : V} (h : DaS F H v) : ∃ d, Da (· ≠ F) H v d := let ⟨d, a, _⟩ := h; ⟨d, a⟩
theorem rd_revT {H : Hp} {a : Addr} {xs : List V} {Q : VK} (h : H a = some (.tup xs)) (q : ∀ p, H p = none → Q (.ref p) (upd H p (.tup (revIx xs)))) : rRevT K (.ref a) H Q := ⟨a, xs, rfl, .inl (.inl h), q⟩
abbrev N_L_bent_spots : List Str := ["_law_flask_here", "_law_spots", "_law_size", "_law_way", "_law_at", "_law_fresh"]
theorem sc_L_bent_spots : FnScope N_L_bent_spots ["_law_flask_here", "_law_spots", "_law_size"] (defScope s_L_bent_spots) := ⟨rfl, rfl, rfl, by decide +kernel, rfl, by decide +kernel, by decide +kernel⟩
def sp_bent : Sp := fun vs H Q _ => ∃ F a, ∃ m : Nat, ∃ ns : List Int, vs = [.ref F, .ref a, .int m] ∧ Fl H F ∧ H a = some (.tup (ns.map V.int)) ∧ ns.length ≤ 30 ∧ m ≤ 9 ∧ ∀ H' v, FK F H H' → DaS F H' v → Q v H'
theorem c_L_bent_spots (S : Sys K mg) : C8.Cal P w K mg base 3 "_law_bent_spots" sp_bent [] := by
  refine calD S.f_D_L_bent_spots S.g_L_bent_spots sc_L_bent_spots (fun _ _ _ _ _ _ us hl => match us, hl with | [_, _, _], _ => rfl) ?_ ?_
  · rintro vs H Q E ⟨_, _, _, _, rfl, _⟩
    rfl
  · rintro cdv A outer s H vs Q E hr ⟨F, a, m, ns, rfl, fl, ha, nl, hm, q⟩
    refine ⟨_, pss_cons (ps_par (i := 3) (j := 4) (by rfl) sc_L_bent_spots.nd rfl rfl (by decide) rfl rfl (pa_cons (C8.pe_c (c_L_drop (K := K) S) hr (by decide) rfl (pa_cons (pv 0) (pa_cons pe_int pa_nil))) (pa_cons (C8.pe_c (c_L_drop (K := K) S) hr (by decide) rfl (pa_cons (pv 0) (pa_cons (pe_op op_add (pe_callB (call_len_seqC (K := K) rfl) (by rfl) S.n_len (by decide +kernel) (pa_cons (pv 1) pa_nil)) pe_int) pa_nil))) pa_nil)) (by rfl))
      (pss_cons (ps_set (i := 5) sc_L_bent_spots.nd rfl (Or.inl rfl) (C8.pe_c (c_L_of (K := K) S) hr (by decide) rfl (pa_cons (pv 0) (pa_cons (pe_lst (pa_cons (C8.pe_c (c_L_drop (K := K) S) hr (by decide) rfl (pa_cons (pv 0) (pa_cons (pe_op op_add (pv 2) pe_int) pa_nil))) (pa_cons (pv 2) (pa_cons (pe_un un_neg pe_int) (pa_cons pe_bl (pa_cons pe_non (pa_cons pe_str (pa_cons (pe_tup (pa_cons pe_int pa_nil)) (pa_cons pe_int pa_nil))))))))) pa_nil))))
      (pss_cons (ps_if (pt_cmpR op_eq (pv 3) pe_int (nomark _)) (pss_one (ps_ret (pe_op (op_catAC (K := K) rfl) (pe_op (op_catAC (K := K) rfl) (pe_slice (sl_tupAC (K := K) rfl) (pv 1) po_none (po_some (pv 4))) (pe_tup (pa_cons (pv 5) pa_nil))) (pe_slice (sl_tupAC (K := K) rfl) (pv 1) (po_some (pv 4)) po_none)))) pss_nil)
      (pss_cons (ps_if (pt_cmpR op_eq (pv 3) pe_int (nomark _)) (pss_one (ps_ret (pe_op (op_catAC (K := K) rfl) (pe_slice (sl_tupAC (K := K) rfl) (pv 1) po_none (po_some (pv 4))) (pe_slice (sl_tupAC (K := K) rfl) (pv 1) (po_some (pe_op op_add (pv 4) pe_int)) po_none)))) pss_nil)
      (pss_cons (ps_if (pt_cmpR op_eq (pv 3) pe_int (nomark _)) (pss_one (ps_ret (pe_op (op_catAC (K := K) rfl) (pe_op (op_catAC (K := K) rfl) (pe_slice (sl_tupAC (K := K) rfl) (pv 1) po_none (po_some (pv 4))) (pe_tup (pa_cons (pv 5) pa_nil))) (pe_slice (sl_tupAC (K := K) rfl) (pv 1) (po_some (pe_op op_add (pv 4) pe_int)) po_none)))) pss_nil)
      (pss_cons (ps_if (pt_cmpR op_eq (pv 3) pe_int (nomark _)) (pss_one (ps_ret (C8.pe_c (c_L_of (K := K) S) hr (by decide) rfl (pa_cons (pv 0) (pa_cons (pe_lst (pa_cons (pe_revT (K := K) rfl (pv 1)) (pa_cons (pe_callTy (call_list_ofC (K := K) rfl) (by rfl) S.n_list (by decide +kernel) (pa_cons (pv 1) pa_nil)) (pa_cons (pe_op (op_catAC (K := K) rfl) (pv 1) (pv 1)) (pa_cons (pe_tup pa_nil) (pa_cons pe_non (pa_cons (pe_op (op_catAC (K := K) rfl) (pv 1) (pe_slice (sl_tupAC (K := K) rfl) (pv 1) po_none (po_some pe_int))) (pa_cons pe_int pa_nil)))))))) pa_nil))))) pss_nil)
      (pss_one (ps_ret (pe_op (op_catAC (K := K) rfl) (pe_slice (sl_tupAC (K := K) rfl) (pv 1) (po_some (pv 4)) po_none) (pe_slice (sl_tupAC (K := K) rfl) (pv 1) po_none (po_some (pv 4))))))))))), ?_⟩
    walk_at "go"
    refine ⟨F, 9, rfl, by decide, by decide, fl, fun H1 way k1 _ _ => ?_⟩
    have ha1 := k1.tup fl ha
    walk_at "go"
    refine ⟨F, _, rfl, by rw [List.length_map]; omega, by rw [List.length_map]; omega, k1.fl, fun H2 at_ k2 _ _ => ?_⟩
    walk_at "go"
    refine ⟨F, _, rfl, by omega, by omega, k2.fl, fun H3 d3 k3 _ _ => ?_⟩
    have k03 := (k1.trans k2).trans k3
    walk_at "go"
    refine ⟨szc rfl, fun p hp => ?_⟩
    have k4 := FK.new (o := .tup [.int 0]) k03 hp
    have e4 : upd H3 p (.tup [.int 0]) p = some (.tup [.int 0]) := upd_same
    generalize upd H3 p (.tup [.int 0]) = H4 at k4 e4
    walk_at "go"
    refine ⟨szc rfl, fun L hL => ?_⟩
    have nL := k4.fl.ne_new hL
    have k5 := FK.new (o := .lst [.int d3, .int m, .int (-1), .bl true, .non, .str (Str.ofString "0"), .ref p, .int 0]) k4 hL
    have e5 : upd H4 L (.lst [.int d3, .int m, .int (-1), .bl true, .non, .str (Str.ofString "0"), .ref p, .int 0]) L = some (.lst [.int d3, .int m, .int (-1), .bl true, .non, .str (Str.ofString "0"), .ref p, .int 0]) := upd_same
    have e45 := same_new (o := .lst [.int d3, .int m, .int (-1), .bl true, .non, .str (Str.ofString "0"), .ref p, .int 0]) hL _ _ e4
    generalize upd H4 L (.lst [.int d3, .int m, .int (-1), .bl true, .non, .str (Str.ofString "0"), .ref p, .int 0]) = H5 at k5 e5 e45
    refine ⟨F, L, _, rfl, k5.fl, .inl ⟨e5, nL⟩, List.cons_ne_nil _ _, Nat.le_of_ble_eq_true rfl, fun H6 v k6 hv => ?_⟩
    have k06 := k5.trans k6
    have hv6 : DaS F H6 v := by
      simp only [List.mem_cons, List.not_mem_nil, or_false] at hv
      rcases hv with rfl | rfl | rfl | rfl | rfl | rfl | rfl | rfl
      · exact .flat (.inr (.inr (.inl ⟨_, rfl⟩)))
      · exact .flat (.inr (.inr (.inl ⟨_, rfl⟩)))
      · exact .flat (.inr (.inr (.inl ⟨_, rfl⟩)))
      · exact .flat (.inr (.inl ⟨_, rfl⟩))
      · exact .flat (.inl rfl)
      · exact .flat (.inr (.inr (.inr ⟨_, rfl⟩)))
      · exact .tup (k6.tup k5.fl e45) (AllDa.ints (ns := [0])) (by decide)
      · exact .flat (.inr (.inr (.inl ⟨_, rfl⟩)))
    have ha6 := k06.tup fl ha
    have lc : ∀ lo hi, (cutV (ns.map V.int) lo hi).length ≤ 30 := fun lo hi => Nat.le_trans (cutV_length _ _ _) (by rw [List.length_map]; exact nl)
    have lm : (ns.map V.int).length ≤ 30 := by rw [List.length_map]; exact nl
    walk_at "go"
    refine ifb (fun h => ?_) fun h => ?_
    · walk_at "go"
      intro p1 J1 s1 e1
      walk_at "go"
      refine ⟨szc rfl, fun p2 hp2 => ?_⟩
      have s2 := same_new (o := .tup [v]) hp2
      have e2 : upd J1 p2 (.tup [v]) p2 = some (.tup [v]) := upd_same
      have e12 := s2 _ _ e1
      generalize upd J1 p2 (.tup [v]) = J2 at s2 e2 e12
      have l1 := lc none (some at_)
      have l2 := lc (some at_) none
      refine rd_catT e12 e2 (sz (by show _ + 1 ≤ _; omega)) fun p3 J3 s3 e3 => ?_
      have s13 := Same.trans s1 (Same.trans s2 s3)
      have haJ := s13 _ _ ha6
      walk_at "go"
      intro p4 J4 s4 e4'
      refine rd_catT (s4 _ _ e3) e4' (sz (by rw [List.length_append]; show _ + 1 + _ ≤ _; omega)) fun p5 J5 s5 e5' => ?_
      have sA := Same.trans s13 (Same.trans s4 s5)
      obtain ⟨d, hd, hs⟩ := hv6.same sA
      refine q _ _ (k06.same sA) (DaS.tup e5' (((AllDa.ints.cut).app fun x hx => ?_).app AllDa.ints.cut) (by rw [List.length_append, List.length_append]; show _ + 1 + _ ≤ _; omega))
      rw [List.mem_singleton.mp hx]
      exact ⟨d, hd, fun es z => (hs es z).1⟩
    walk_at "go"
    refine ifb (fun h => ?_) fun h => ?_
    · walk_at "go"
      intro p1 J1 s1 e1
      have haJ := s1 _ _ ha6
      walk_at "go"
      intro p4 J4 s4 e4'
      have l1 := lc none (some at_)
      have l2 := lc (some (at_ + 1)) none
      refine rd_catT (s4 _ _ e1) e4' (sz (by omega)) fun p5 J5 s5 e5' => ?_
      have sA := Same.trans s1 (Same.trans s4 s5)
      exact q _ _ (k06.same sA) (DaS.tup e5' ((AllDa.ints.cut).app AllDa.ints.cut) (by rw [List.length_append]; omega))
    walk_at "go"
    refine ifb (fun h => ?_) fun h => ?_
    · walk_at "go"
      intro p1 J1 s1 e1
      walk_at "go"
      refine ⟨szc rfl, fun p2 hp2 => ?_⟩
      have s2 := same_new (o := .tup [v]) hp2
      have e2 : upd J1 p2 (.tup [v]) p2 = some (.tup [v]) := upd_same
      have e12 := s2 _ _ e1
      generalize upd J1 p2 (.tup [v]) = J2 at s2 e2 e12
      have l1 := lc none (some at_)
      have l2 := lc (some (at_ + 1)) none
      refine rd_catT e12 e2 (sz (by show _ + 1 ≤ _; omega)) fun p3 J3 s3 e3 => ?_
      have s13 := Same.trans s1 (Same.trans s2 s3)
      have haJ := s13 _ _ ha6
      walk_at "go"
      intro p4 J4 s4 e4'
      refine rd_catT (s4 _ _ e3) e4' (sz (by rw [List.length_append]; show _ + 1 + _ ≤ _; omega)) fun p5 J5 s5 e5' => ?_
      have sA := Same.trans s13 (Same.trans s4 s5)
      obtain ⟨d, hd, hs⟩ := hv6.same sA
      refine q _ _ (k06.same sA) (DaS.tup e5' (((AllDa.ints.cut).app fun x hx => ?_).app AllDa.ints.cut) (by rw [List.length_append, List.length_append]; show _ + 1 + _ ≤ _; omega))
      rw [List.mem_singleton.mp hx]
      exact ⟨d, hd, fun es z => (hs es z).1⟩
    walk_at "go"
    refine ifb (fun h => ?_) fun h => ?_
    · walk_at "go"
      refine rd_revT ha6 fun p1 hp1 => ?_
      have s1 := same_new (o := .tup (revIx (ns.map V.int))) hp1
      have e1 : upd H6 p1 (.tup (revIx (ns.map V.int))) p1 = some (.tup (revIx (ns.map V.int))) := upd_same
      generalize upd H6 p1 (.tup (revIx (ns.map V.int))) = J1 at s1 e1
      have haJ := s1 _ _ ha6
      walk_at "go"
      intro p2 hp2
      have s2 := same_new (o := .lst (ns.map V.int)) hp2
      have e2 : upd J1 p2 (.lst (ns.map V.int)) p2 = some (.lst (ns.map V.int)) := upd_same
      have n2 : p2 ≠ F := (k06.same s1).fl.ne_new hp2
      generalize upd J1 p2 (.lst (ns.map V.int)) = J2 at s2 e2
      have haJ2 := s2 _ _ haJ
      walk_at "go"
      refine rd_catT haJ2 haJ2 (sz (by omega)) fun p3 J3 s3 e3 => ?_
      have haJ3 := s3 _ _ haJ2
      walk_at "go"
      refine ⟨szc rfl, fun p4 hp4 => ?_⟩
      have s4 := same_new (o := .tup []) hp4
      have e4' : upd J3 p4 (.tup []) p4 = some (.tup []) := upd_same
      have haJ4 := s4 _ _ haJ3
      generalize upd J3 p4 (.tup []) = J4 at s4 e4' haJ4
      walk_at "go"
      intro p5 J5 s5 e5'
      have haJ5 := s5 _ _ haJ4
      refine rd_catT haJ5 e5' (sz (by have := lc none (some 1); omega)) fun p6 J6 s6 e6 => ?_
      walk_at "go"
      refine ⟨szc rfl, fun L2 hL2 => ?_⟩
      have s7 := same_new (o := .lst [.ref p1, .ref p2, .ref p3, .ref p4, .non, .ref p6, .int 0]) hL2
      have e7 : upd J6 L2 (.lst [.ref p1, .ref p2, .ref p3, .ref p4, .non, .ref p6, .int 0]) L2 = some (.lst [.ref p1, .ref p2, .ref p3, .ref p4, .non, .ref p6, .int 0]) := upd_same
      have s26 : Same J2 J6 := Same.trans s3 (Same.trans s4 (Same.trans s5 s6))
      have s06 : Same H6 J6 := Same.trans s1 (Same.trans s2 s26)
      have nL2 : L2 ≠ F := (k06.same s06).fl.ne_new hL2
      generalize upd J6 L2 (.lst [.ref p1, .ref p2, .ref p3, .ref p4, .non, .ref p6, .int 0]) = J7 at s7 e7
      have k7 := k06.same (Same.trans s06 s7)
      have s67 := s7
      refine ⟨F, L2, _, rfl, k7.fl, .inl ⟨e7, nL2⟩, List.cons_ne_nil _ _, Nat.le_of_ble_eq_true rfl, fun H8 v8 k8 hv8 => q _ _ (k7.trans k8) (DaS.fk ?_ k8 k7.fl)⟩
      simp only [List.mem_cons, List.not_mem_nil, or_false] at hv8
      rcases hv8 with rfl | rfl | rfl | rfl | rfl | rfl | rfl
      · exact .tup ((Same.trans s2 (Same.trans s26 s7)) _ _ e1) (fun x hx => AllDa.ints x (revIx_mem hx)) (Nat.le_trans (revIx_len _) (by omega))
      · obtain ⟨ds, a1, a2⟩ := (AllDa.ints (F := F) (H := J7) (ns := ns)).all
        exact ⟨.list ds, .lst ((Same.trans s26 s7) _ _ e2) n2 a1, fun ds' z => by cases z⟩
      · exact .tup ((Same.trans s4 (Same.trans s5 (Same.trans s6 s7))) _ _ e3) (AllDa.ints.app AllDa.ints) (by rw [List.length_append]; omega)
      · exact .tup ((Same.trans s5 (Same.trans s6 s7)) _ _ e4') (fun x hx => absurd hx List.not_mem_nil) (by decide)
      · exact .flat (.inl rfl)
      · exact .tup (s7 _ _ e6) (AllDa.ints.app AllDa.ints.cut) (by rw [List.length_append]; have := lc none (some 1); omega)
      · exact .flat (.inr (.inr (.inl ⟨_, rfl⟩)))
    walk_at "go"
    intro p1 J1 s1 e1
    have haJ := s1 _ _ ha6
    walk_at "go"
    intro p4 J4 s4 e4'
    have l1 := lc none (some at_)
    have l2 := lc (some at_) none
    refine rd_catT (s4 _ _ e1) e4' (sz (by omega)) fun p5 J5 s5 e5' => ?_
    have sA := Same.trans s1 (Same.trans s4 s5)
    exact q _ _ (k06.same sA) (DaS.tup e5' ((AllDa.ints.cut).app AllDa.ints.cut) (by rw [List.length_append]; omega))
end
end K59
/-! K59L11 -/
set_option Elab.async false
set_option linter.all false
set_option maxRecDepth 100000
set_option maxHeartbeats 4000000
namespace K59
open PySem PySem.W PySem.Calls PySem.Spec PyProof.Rows L2
local macro_rules | `(tactic| walk_at "hp") => `(tactic| first
  | assumption
  | exact upd_same
  | (refine same_new (by assumption) _ _ ?_; walk_at "hp")
  | (refine (by assumption : Same _ _) _ _ ?_; walk_at "hp")
  | (refine FK.tk (by assumption) (by assumption) _ _ ?_; walk_at "hp"))
local macro_rules | `(tactic| walk_at "sq") => `(tactic| first
  | assumption
  | exact FrzT.sq (by assumption)
  | (refine sqt_new (by assumption) ?_; walk_at "sq")
  | (refine sqt_same ?_ (by assumption); walk_at "sq"))
local macro_rules | `(tactic| walk_at "fz") => `(tactic| first
  | assumption
  | (refine frz_new (by assumption) ?_; walk_at "fz")
  | (refine FrzT.same ?_ (by assumption); walk_at "fz"))
local macro_rules | `(tactic| walk_at "ic") => `(tactic| first
  | ((with_reducible show (0 : Int) < _); decide)
  | exact Or.inl ⟨by decide, by decide⟩
  | exact Or.inr ⟨by decide, by decide⟩
  | exact (show (0 : Int) < _ ∧ _ < (1073741824 : Int) from ⟨by decide, by decide⟩)
  | exact (show (0 : Int) ≤ _ ∧ _ ≤ (1000000 : Int) ∧ Int.natAbs _ < 2 ^ 64 from ⟨by decide, by decide, by decide⟩)
  | exact (⟨by decide, by decide, by decide⟩ : _ ∧ _ ∧ _))
local macro_rules | `(tactic| walk_at "st") => `(tactic| first
  | with_reducible refine rd_var rfl ?_
  | with_reducible refine rd_c ?_
  | with_reducible refine rd_cons ?_
  | with_reducible refine rd_nil ?_
  | with_reducible refine rd_op ?_
  | with_reducible refine rd_cb ?_
  | with_reducible refine rd_call ?_
  | with_reducible refine rd_test ?_
  | with_reducible refine rd_B ?_
  | with_reducible refine rd_bl ?_
  | with_reducible refine rd_un ?_
  | with_reducible refine rd_and ?_
  | with_reducible refine rd_or ?_
  | with_reducible refine rd_not ?_
  | with_reducible refine rd_andV ?_
  | with_reducible refine rd_orV ?_
  | with_reducible refine rd_notV ?_
  | with_reducible refine rd_if ?_
  | with_reducible refine rd_chain ?_
  | with_reducible refine rd_I0 ?_
  | with_reducible refine rd_U ?_
  | with_reducible refine rd_eqI ?_
  | with_reducible refine rd_neI ?_
  | with_reducible refine rd_eqS ?_
  | with_reducible refine rd_neS ?_
  | with_reducible refine rd_nn ?_
  | with_reducible refine rd_asg ?_
  | with_reducible refine rd_gname ?_
  | with_reducible refine rd_seq ?_
  | with_reducible refine rd_ifS ?_
  | with_reducible refine rd_ret ?_
  | with_reducible refine rd_next ?_
  | with_reducible refine rd_cont ?_
  | with_reducible refine rd_drop ?_
  | with_reducible refine rd_par ?_
  | with_reducible refine rd_vs2 ?_
  | with_reducible refine rd_gsub ?_
  | with_reducible refine rd_gcons ?_
  | with_reducible refine rd_gnil ?_
  | with_reducible refine rd_tup ?_
  | with_reducible refine rd_lst ?_
  | with_reducible refine rd_sl ?_
  | with_reducible refine rd_part ?_
  | with_reducible refine rd_nopart ?_
  | with_reducible refine rd_i1 ?_
  | with_reducible refine rd_bm ?_
  | with_reducible refine rd_yes ?_
  | with_reducible refine rd_lcT ?_
  | with_reducible refine rd_lcL ?_
  | with_reducible refine rd_lcR1 ?_
  | with_reducible refine rd_lcS ?_
  | with_reducible refine rd_forT ?_
  | with_reducible refine rd_forL ?_
  | with_reducible refine rd_forR1 ?_
  | with_reducible refine rd_atS ?_
  | with_reducible refine rd_forEn ?_
  | with_reducible refine rd_dget ?_
  | with_reducible refine rd_din ?_
  | with_reducible refine rd_dget2 ?_
  | with_reducible refine rd_dput ?_
  | with_reducible refine rd_disp ?_
  | with_reducible refine rd_pcons ?_
  | with_reducible refine rd_pnil ?_
  | with_reducible refine rd_dcL ?_
  | with_reducible refine rd_lcEn ?_
  | with_reducible refine rd_yS ?_
  | with_reducible refine rd_m1 ?_
  | with_reducible refine rd_meth ?_
  | with_reducible refine rd_fld ?_
  | with_reducible refine rd_sfld ?_
  | with_reducible refine rd_make ?_
  | with_reducible refine rd_fmt ?_
  | with_reducible refine rd_js ?_
  | with_reducible refine rd_js0 ?_
  | with_reducible refine iteT ?_
  | with_reducible refine iteF ?_
  | ((with_reducible refine isi_int (d := ?d1) (N := ?n1) ?h1 ?_); (case h1 => assumption))
  | ((with_reducible refine isi_bool (d := ?d1) (N := ?n1) ?h1 ?_); (case h1 => assumption))
  | ((with_reducible refine isi_str (d := ?d1) (N := ?n1) ?h1 ?_); (case h1 => assumption))
  | ((with_reducible refine isi_tuple (d := ?d1) (N := ?n1) ?h1 ?_); (case h1 => assumption))
  | with_reducible refine isi_str (N := fun _ => True) (Da.str _) ?_
  | with_reducible refine isi_int (N := fun _ => True) (Da.int _) ?_
  | with_reducible refine isi_bool (N := fun _ => True) (Da.int _) ?_
  | with_reducible refine isi_str (N := fun _ => True) (Da.int _) ?_
  | ((with_reducible show (wipe _ _ = wipe _ _) ∧ _); refine ⟨rfl, ?_⟩)
  | ((with_reducible show Ends.nx _ _ _); dsimp only)
  | ((with_reducible show Ends.rt _ _ _); dsimp only)
  | ((with_reducible show Ends.ct _ _ _); dsimp only)
  | ((with_reducible refine rd_ixT (xs := ?x1) (v := ?v1) ?h1 ?e1 ?_); (case h1 => walk_at "hp"); (case e1 => rfl))
  | ((with_reducible refine rd_ixL (xs := ?x1) (v := ?v1) ?h1 ?e1 ?_); (case h1 => walk_at "hp"); (case e1 => rfl))
  | ((with_reducible refine rd_lenT (xs := ?x1) ?h1 ?_); (case h1 => walk_at "hp"))
  | ((with_reducible refine rd_lenL (xs := ?x1) ?h1 ?_); (case h1 => walk_at "hp"))
  | ((with_reducible refine rd_tupOf (xs := ?x1) ?h1 ?_); (case h1 => walk_at "hp"))
  | ((with_reducible refine rd_all (bs := ?x1) ?h1 ?_); (case h1 => walk_at "hp"))
  | ((with_reducible refine rd_atT (xs := ?x1) ?h1 ?_); (case h1 => walk_at "hp"))
  | ((with_reducible refine rd_atL (xs := ?x1) ?h1 ?_); (case h1 => walk_at "hp"))
  | ((with_reducible refine rd_gtup (xs := ?x1) ?h1 ?e1 ?_); (case h1 => walk_at "hp"); (case e1 => rfl))
  | ((with_reducible refine rd_atEn (xs := ?x1) ?h1 ?_); (case h1 => walk_at "hp"))
  | ((with_reducible refine rd_slT (xs := ?x1) ?h1 ?_); (case h1 => walk_at "hp"))
  | ((with_reducible refine rd_slL (xs := ?x1) ?h1 ?_); (case h1 => walk_at "hp"))
  | ((with_reducible refine rd_inN (N := ?x1) ?h1 ?_); (case h1 => walk_at "hp"))
  | ((with_reducible refine rd_inL (N := ?x1) ?h1 ?_); (case h1 => walk_at "hp"))
  | ((with_reducible refine rd_notInN (N := ?x1) ?h1 ?_); (case h1 => walk_at "hp"))
  | ((with_reducible refine rd_notInL (N := ?x1) ?h1 ?_); (case h1 => walk_at "hp"))
  | with_reducible refine rd_tm ?_
  | ((with_reducible refine rd_isF (xs := ?x1) ?h1 ?_); (case h1 => walk_at "fz"))
  | ((with_reducible refine rd_lenTq (xs := ?x1) ?h1 ?_); (case h1 => walk_at "sq"))
  | ((with_reducible refine rd_atTq (xs := ?x1) ?h1 ?_); (case h1 => walk_at "sq"))
  | ((with_reducible refine rd_atEnq (xs := ?x1) ?h1 ?_); (case h1 => walk_at "sq"))
  | ((with_reducible refine rd_slTq (xs := ?x1) ?h1 ?_); (case h1 => walk_at "sq"))
  | ((with_reducible refine rd_inNq (N := ?x1) ?h1 ?_); (case h1 => walk_at "sq"))
  | ((with_reducible refine rd_setL (xs := ?x1) (j := ?j1) ?h1 ?e1 ?_); (case h1 => walk_at "hp"); (case e1 => rfl))
  | with_reducible refine rd_int1 ?_
  | with_reducible refine rd_x1 ?_
  | with_reducible refine rd_x2 ?_
  | ((with_reducible refine rd_tyL (xs := ?x1) ?h1 ?_); (case h1 => walk_at "hp"))
  | ((with_reducible refine rd_ixsL (xs := ?x1) (v := ?v1) ?h1 ?e1 ?_); (case h1 => walk_at "hp"); (case e1 => rfl))
  | ((with_reducible refine rd_ixsT (xs := ?x1) (v := ?v1) ?h1 ?e1 ?_); (case h1 => walk_at "hp"); (case e1 => rfl))
  | ((with_reducible refine rd_I ?c1 ?_); (case c1 => walk_at "ic"))
  | ((with_reducible refine if_t ?hb1 ?_); (case hb1 => rfl))
  | ((with_reducible refine if_f ?hb1 ?_); (case hb1 => rfl)))
local macro_rules | `(tactic| walk_at "go") => `(tactic| repeat (first | walk_at "st" | dsimp only))
section
variable {P : Program} {w : World} {K : Frag} {mg : Str → Option Value} {base : Heap}

/-! ### tuples of places -/
def SpAt (n m : Nat) (H : Hp) (a : Addr) : Prop := ∃ is : List Nat, H a = some (.tup ((is.map Int.ofNat).map V.int)) ∧ 1 ≤ is.length ∧ is.length ≤ m ∧ ∀ i ∈ is, i < n
theorem SpAt.tk {n m : Nat} {H H' : Hp} {a : Addr} (h : SpAt n m H a) (t : TK H H') : SpAt n m H' a := let ⟨is, a, b, c, d⟩ := h; ⟨is, t _ _ a, b, c, d⟩
theorem SpAt.le {n m m' : Nat} {H : Hp} {a : Addr} (h : SpAt n m H a) (l : m ≤ m') : SpAt n m' H a := let ⟨is, a, b, c, d⟩ := h; ⟨is, a, b, Nat.le_trans c l, d⟩
theorem kp_tk {F : Addr} {H H' : Hp} {ys : List V} (e : H F = some (.lst ys)) (k : Kp F H H') : TK H H' := fun b xs h => k b _ h (ne_of h e (by intro z; cases z))
theorem get_ints {is : List Nat} {j : Nat} {x : V} (h : ((is.map Int.ofNat).map V.int)[j]? = some x) : ∃ i, is[j]? = some i ∧ x = .int (i : Nat) := by
  rw [List.getElem?_map, List.getElem?_map] at h
  cases e : is[j]? with
  | none =>
    rw [e] at h
    cases h
  | some i =>
    rw [e] at h
    cases h
    exact ⟨i, rfl, rfl⟩
def rlAt (R : List Rl) (i : Nat) : Rl := (R[i]?).getD (.most eS 0)
theorem rlAt_get {R : List Rl} {i : Nat} (h : i < R.length) : R[i]? = some (rlAt R i) := by
  unfold rlAt
  rw [List.getElem?_eq_getElem h] <;> rfl
abbrev N_L_rings : List Str := ["_law_shape_here", "_law_found", "_law_fresh", "_law_k", "_law_turn", "_law_longer", "_law_spots", "_law_arcs_here", "_law_heads", "_law_arc"]
theorem sc_L_rings : FnScope N_L_rings ["_law_shape_here"] (defScope s_L_rings) := ⟨rfl, rfl, rfl, by decide +kernel, rfl, by decide +kernel, by decide +kernel⟩
def sp_rings : Sp := fun vs H Q _ => ∃ p, ∃ N : List Str, ∃ R, vs = [.ref p] ∧ ShapeAt H p N R ∧ N.length ≤ 5 ∧ R.length ≤ 9 ∧ ∀ H' L, ∀ as : List Addr, Same H H' → H L = none → H' L = some (.lst (as.map V.ref)) → (∀ a ∈ as, SpAt R.length 8 H' a) → as.length ≤ 3188646 → Q (.ref L) H'
theorem c_L_rings (S : Sys K mg) : C8.Cal P w K mg base 3 "_law_rings" sp_rings [] := by
  refine calD S.f_D_L_rings S.g_L_rings sc_L_rings (fun _ _ _ _ _ _ us hl => match us, hl with | [_], _ => rfl) ?_ ?_
  · rintro vs H Q E ⟨_, _, _, rfl, _⟩
    rfl
  · rintro cdv A outer s H vs Q E hr ⟨p, N, R, rfl, sh, n5, r9, q⟩
    refine ⟨_, pss_cons (ps_par (i := 1) (j := 2) (by rfl) sc_L_rings.nd rfl rfl (by decide) rfl rfl (pa_cons (pe_lst pa_nil) (pa_cons (pe_lc (own := [("_law_k", 3)]) (g := gName 3) (tt := tYes) rfl sc_L_rings.nd (pi_range1 (by rfl) S.n_range (pa_cons (pe_callB (call_len_seqC (K := K) rfl) (by rfl) S.n_len (by decide +kernel) (pa_cons (pe_ix (ix_tupC (K := K) rfl) (pv 0) pe_int (fun _ _ => rfl)) pa_nil)) pa_nil)) (blkOk_by (N := N_L_rings) (sc := defScope s_L_rings) (by decide +kernel)) (fun _ _ _ _ _ => (pg_name (i := 3) sc_L_rings.nd rfl (Or.inl rfl))) (fun _ _ _ _ _ => pts_nil) (fun _ _ _ _ _ => (pe_tup (pa_cons (pv 3) pa_nil)))) pa_nil)) (by rfl))
      (pss_cons (ps_for PassesOwn.never rfl (pi_range1 (by rfl) S.n_range (pa_cons (pe_op op_add (pe_callB (call_len_seqC (K := K) rfl) (by rfl) S.n_len (by decide +kernel) (pa_cons (pe_ix (ix_tupC (K := K) rfl) (pv 0) pe_int (fun _ _ => rfl)) pa_nil)) pe_int) pa_nil)) (pg_name (i := 4) sc_L_rings.nd rfl (Or.inl rfl))
        (pss_cons (ps_set (i := 5) sc_L_rings.nd rfl (Or.inl rfl) (pe_lst pa_nil))
      (pss_cons (ps_for PassesOwn.never rfl (pi_listC (K := K) rfl (pv 2)) (pg_name (i := 6) sc_L_rings.nd rfl (Or.inr rfl))
        (pss_cons (ps_setLc (i := 7) (own := [("_law_k", 3)]) (g := gName 3) (tt := tYes) rfl sc_L_rings.nd rfl rfl (sw_true rfl rfl rfl (by decide +kernel)) (pi_tupC (K := K) rfl (pv 6)) (blkOk_by (N := N_L_rings) (sc := defScope s_L_rings) (by decide +kernel)) (fun _ _ _ _ _ => (pg_name (i := 3) sc_L_rings.nd rfl (Or.inl rfl))) (fun _ _ _ _ _ => pts_nil) (fun _ _ _ _ _ => (C8.pe_c (c_L_ends (K := K) S) hr (by decide) rfl (pa_cons (pe_ix (ix_tupC (K := K) rfl) (pe_ix (ix_tupC (K := K) rfl) (pv 0) pe_int (fun _ _ => rfl)) (pv 3) (fun _ _ => rfl)) pa_nil))))
      (pss_cons (ps_set (i := 8) sc_L_rings.nd rfl (Or.inr rfl) (pe_lc (own := [("_law_arc", 9)]) (g := gName 9) (tt := tYes) rfl sc_L_rings.nd (pi_listC (K := K) rfl (pv 7)) (blkOk_by (N := N_L_rings) (sc := defScope s_L_rings) (by decide +kernel)) (fun _ _ _ _ _ => (pg_name (i := 9) sc_L_rings.nd rfl (Or.inl rfl))) (fun _ _ _ _ _ => pts_nil) (fun _ _ _ _ _ => (pe_ix (ix_tupC (K := K) rfl) (pv 9) pe_int (fun _ _ => rfl)))))
      (pss_one (ps_if (PW.pt (pw_and (pt_cmpR op_gt (pe_callB (call_len_seqC (K := K) rfl) (by rfl) S.n_len (by decide +kernel) (pa_cons (pv 6) pa_nil)) pe_int (nomark _)) (pw_and1 (pt_cmpR op_eq (pe_ix (ix_listC (K := K) rfl) (pv 8) (pe_un un_neg pe_int) (fun _ _ => rfl)) (pe_ix (ix_tupC (K := K) rfl) (pe_ix (ix_listC (K := K) rfl) (pv 7) pe_int (fun _ _ => rfl)) pe_int (fun _ _ => rfl)) (nomark _))))) (pss_one (ps_expr (pe_bm PySem.F.plainAttrs_list PySem.F.slot_list_append PySem.F.type_list_append mt_append (pv 1) (pa_cons (pv 6) pa_nil)))) (pss_one (ps_if (pt_cmpR (op_notIn_seqC (K := K) rfl) (pe_ix (ix_tupC (K := K) rfl) (pe_ix (ix_listC (K := K) rfl) (pv 7) pe_int (fun _ _ => rfl)) pe_int (fun _ _ => rfl)) (pv 8) rfl) (pss_one (ps_set (i := 5) sc_L_rings.nd rfl (Or.inl rfl) (pe_op op_cat (pv 5) (pe_lc (own := [("_law_k", 3)]) (g := gName 3) rfl sc_L_rings.nd (pi_range1 (by rfl) S.n_range (pa_cons (pe_callB (call_len_seqC (K := K) rfl) (by rfl) S.n_len (by decide +kernel) (pa_cons (pe_ix (ix_tupC (K := K) rfl) (pv 0) pe_int (fun _ _ => rfl)) pa_nil)) pa_nil)) (blkOk_by (N := N_L_rings) (sc := defScope s_L_rings) (by decide +kernel)) (fun _ _ _ _ _ => (pg_name (i := 3) sc_L_rings.nd rfl (Or.inl rfl))) (fun _ _ _ _ _ => pts_one (pt_val (C8.pe_c (c_L_goes_on (K := K) S) hr (by decide) rfl (pa_cons (pv 0) (pa_cons (pv 8) (pa_cons (pv 3) pa_nil)))))) (fun _ _ _ _ _ => (pe_op (op_catAC (K := K) rfl) (pv 6) (pe_tup (pa_cons (pv 3) pa_nil)))))))) pss_nil)))))))
      (pss_one (ps_set (i := 2) sc_L_rings.nd rfl (Or.inl rfl) (pv 5))))))
      (pss_one (ps_ret (pv 1)))), ?_⟩
    obtain ⟨pf, pr, as, h1, h2, h3, h4⟩ := sh.ex
    walk_at "go"
    refine ⟨szc rfl, fun fa hfa => ?_⟩
    have s1 := same_new (o := .lst []) hfa
    have e1 : upd H fa (.lst []) fa = some (.lst (([] : List Addr).map V.ref)) := upd_same
    generalize upd H fa (.lst []) = H1 at s1 e1
    have i1 := s1 _ _ h1
    have i3 := s1 _ _ h3
    walk_at "go"
    rw [List.length_map, h4.1]
    refine ⟨by omega, by omega, ?_⟩
    refine lcW (n := R.length) walk_r0 (fun j acc H2 => ∃ bs : List Addr, acc = bs.map V.ref ∧ bs.length ≤ j ∧ ∀ a ∈ bs, SpAt R.length 1 H2 a) (fun _ _ _ _ t ⟨bs, a, b, c⟩ => ⟨bs, a, b, fun x hx => (c x hx).tk t⟩) ⟨[], rfl, Nat.le_refl _, fun a h => absurd h List.not_mem_nil⟩ (by omega) (fun _ _ => trivial) (fun j x acc H2 H2' hj s f _ hY Qy Qn hQ _ => ?_) fun ra H2 acc hra s2 e2 f _ => ?_
    · obtain ⟨rfl, rfl⟩ := hY
      obtain ⟨bs, rfl, f1, f2⟩ := f
      walk_at "go"
      refine ⟨szc rfl, fun p3 hp3 => ?_⟩
      have s3 := same_new (o := .tup [.int (j : Nat)]) hp3
      refine hQ _ _ s3 ⟨bs ++ [p3], by rw [List.map_append] <;> rfl, by rw [List.length_append]; exact Nat.succ_le_succ f1, fun a ha => ?_⟩
      rcases List.mem_append.mp ha with h | h
      · exact (f2 a h).tk (Same.tk s3)
      · rw [List.mem_singleton.mp h]
        exact ⟨[j], upd_same, Nat.le_refl 1, Nat.le_refl 1, fun i hi => by rw [List.mem_singleton.mp hi]; exact hj⟩
    obtain ⟨rs0, rfl, f1, f2⟩ := f
    have ef2 := s2 _ _ e1
    have nra : ra ≠ fa := fun z => by
      rw [z, e1] at hra
      cases hra
    have s02 := Same.trans s1 s2
    have g1 := s02 _ _ h1
    have g2 := s02 _ _ h2
    walk_at "go"
    rw [List.length_map]
    refine ⟨by omega, by omega, ?_⟩
    have en : ((N.length : Int) + 1).toNat = N.length + 1 := by omega
    rw [en]
    have pw : ∀ t, t ≤ 5 → 9 ^ (t + 1) ≤ 531441 := fun t ht => Nat.le_trans (Nat.pow_le_pow_right (by decide) (show t + 1 ≤ 6 by omega)) (by decide)
    refine forW (n := N.length + 1) walk_r0 (fun t σ H3 => ∃ ra x3 x4 x5 x6 x7 x8 x9, ∃ Fs Rs : List Addr, σ = [some (.ref p), some (.ref fa), some (.ref ra), x3, x4, x5, x6, x7, x8, x9] ∧ Same H H3 ∧ H3 fa = some (.lst (Fs.map V.ref)) ∧ H3 ra = some (.lst (Rs.map V.ref)) ∧ ra ≠ fa ∧ (∀ a ∈ Fs, SpAt R.length 8 H3 a) ∧ (∀ a ∈ Rs, SpAt R.length (t + 1) H3 a) ∧ Fs.length ≤ t * 531441 ∧ Rs.length ≤ 9 ^ (t + 1))
      ⟨ra, _, _, _, _, _, _, _, [], rs0, rfl, s02, ef2, e2, nra, fun a h => absurd h List.not_mem_nil, f2, Nat.zero_le _, by show rs0.length ≤ 9; omega⟩ (fun _ _ _ _ _ => trivial) (fun t x σ H3 H3' ht ⟨ra, x3, x4, x5, x6, x7, x8, x9, Fs, Rs, eσ, s3, ef, er, nra, hF, hR, lF, lR⟩ hY => ?_) fun σ H3 ⟨ra, x3, x4, x5, x6, x7, x8, x9, Fs, Rs, eσ, s3, ef, er, nra, hF, hR, lF, lR⟩ => ?_
    · obtain ⟨rfl, rfl⟩ := hY
      subst eσ
      have t5 : t ≤ 5 := by omega
      have lR6 := Nat.le_trans lR (pw t t5)
      walk_at "go"
      refine ⟨szc rfl, fun la hla => ?_⟩
      have s4 := same_new (o := .lst []) hla
      have e4 : upd H3' la (.lst []) la = some (.lst (([] : List Addr).map V.ref)) := upd_same
      have nla : la ≠ fa := fun z => by
        rw [z, ef] at hla
        cases hla
      generalize upd H3' la (.lst []) = H4 at s4 e4
      have er4 := s4 _ _ er
      walk_at "go"
      refine forW (n := Rs.length) (G := fun H => SqL K H ra (Rs.map V.ref)) (Y := YAt (Rs.map V.ref)) (List.length_map (as := Rs) V.ref ▸ walk_list) (fun j σ H5 => ∃ la x3 x6 x7 x8 x9, ∃ Fs' Ls : List Addr, σ = [some (.ref p), some (.ref fa), some (.ref ra), x3, some (.int (t : Nat)), some (.ref la), x6, x7, x8, x9] ∧ Same H H5 ∧ H5 fa = some (.lst (Fs'.map V.ref)) ∧ H5 ra = some (.lst (Rs.map V.ref)) ∧ H5 la = some (.lst (Ls.map V.ref)) ∧ la ≠ fa ∧ (∀ a ∈ Fs', SpAt R.length 8 H5 a) ∧ (∀ a ∈ Rs, SpAt R.length (t + 1) H5 a) ∧ (∀ a ∈ Ls, SpAt R.length (t + 2) H5 a) ∧ Fs'.length ≤ t * 531441 + j ∧ Ls.length ≤ 9 * j)
        ⟨la, _, _, _, _, _, Fs, [], rfl, Same.trans s3 s4, s4 _ _ ef, er4, e4, nla, fun a h => (hF a h).tk (Same.tk s4), fun a h => (hR a h).tk (Same.tk s4), fun a h => absurd h List.not_mem_nil, Nat.le_trans lF (Nat.le_add_right _ _), Nat.zero_le _⟩ (fun _ _ _ _ ⟨_, _, _, _, _, _, _, _, _, _, _, e, _⟩ => .inl (.inl e)) (fun j x σ H5 H5' hj ⟨la, x3, x6, x7, x8, x9, Fs', Ls, eσ, s5, ef, er, el, nla, hF, hR, hL, lF, lL⟩ hY => ?_) fun σ H5 ⟨la, x3, x6, x7, x8, x9, Fs', Ls, eσ, s5, ef, er, el, nla, hF, hR, hL, lF, lL⟩ => ?_
      · obtain ⟨rfl, hx⟩ := hY
        subst eσ
        rw [List.getElem?_map, List.getElem?_eq_getElem hj] at hx
        cases hx
        have hsp := hR _ (List.getElem_mem hj)
        generalize Rs[j] = sa at hsp
        obtain ⟨is, es, is1, ism, isn⟩ := hsp
        have j1 := s5 _ _ h1
        have j3 := s5 _ _ h3
        have h45 := h4.tk (Same.tk s5)
        walk_at "go"
        refine lcW (n := is.length) (G := fun H => SqT K H sa ((is.map Int.ofNat).map V.int)) (Y := YAt ((is.map Int.ofNat).map V.int)) (by have := walk_tup (K := K) (a := sa) (xs := (is.map Int.ofNat).map V.int); rw [List.length_map, List.length_map] at this; exact this) (fun i acc H6 => ∃ bs : List Addr, acc = bs.map V.ref ∧ PtAt endsL H6 bs ((is.map (rlAt R)).take i)) (fun _ _ _ _ t ⟨bs, a, b⟩ => ⟨bs, a, b.tk t⟩) ⟨[], rfl, PtAt.nil⟩ (by omega) (fun H6 s => .inl (.inl (s _ _ es))) (fun i x acc H6 H6' hi s f _ hY Qy Qn hQ _ => ?_) fun l7 H6 acc hl7 s6 e6 f _ => ?_
        · obtain ⟨rfl, hx⟩ := hY
          obtain ⟨k, hk, rfl⟩ := get_ints hx
          obtain ⟨bs, rfl, f⟩ := f
          have kn := isn k (List.mem_of_getElem? hk)
          have hi2 : k < (as.map V.ref).length := by rw [List.length_map, h4.1]; exact kn
          obtain ⟨b, r, eb, hb1, hb2, hb3⟩ := h45.get (List.getElem?_eq_getElem hi2)
          rw [rlAt_get kn] at hb2
          cases hb2
          walk_at "go"
          refine rd_ixT (s _ _ j3) (atI_nat (List.getElem?_eq_getElem hi2)) ?_
          rw [eb]
          walk_at "go"
          refine ⟨b, rlAt R k, rfl, s _ _ hb3, fun H7 p7 s7 e7 => ?_⟩
          refine hQ _ _ s7 ⟨bs ++ [p7], by rw [List.map_append] <;> rfl, ?_⟩
          rw [List.take_add_one, List.getElem?_map, hk]
          exact (f.same s7).snoc e7
        obtain ⟨bs, rfl, pt⟩ := f
        rw [List.take_of_length_le (by rw [List.length_map]; exact Nat.le_refl _)] at pt
        have hrs : 1 ≤ (is.map (rlAt R)).length := by rw [List.length_map]; exact is1
        have rsm : (is.map (rlAt R)).length ≤ 1000 := by rw [List.length_map]; omega
        generalize is.map (rlAt R) = rs at pt hrs rsm
        have ll := pt.len
        walk_at "go"
        refine lcM (n := rs.length) (G := fun H => SqL K H l7 (bs.map V.ref)) (Y := YAt (bs.map V.ref)) (ll ▸ walk_list) ((rs.map Rl.hi).map V.str) (by simp) (by omega) (fun H7 s => .inl (.inl (s _ _ e6))) (fun i x H7 H7' y hi s hY hy Qy Qn hQ => ?_) fun l8 H7 hl8 s7 e7 => ?_
        · obtain ⟨rfl, hx⟩ := hY
          obtain ⟨b, r, rfl, hb1, hb2, hb3⟩ := (pt.same s).get hx
          rw [List.getElem?_map, List.getElem?_map, hb2] at hy
          cases hy
          unfold endsL at hb3
          walk_at "go"
          exact hQ _ (Same.refl _)
        have s57 := Same.trans s6 s7
        have pt7 := pt.same s7
        have e67 := s7 _ _ e6
        have es7 := s57 _ _ es
        have hne : rs.map Rl.hi ≠ [] := fun z => by
          have := congrArg List.length z
          rw [List.length_map] at this
          simp at this
          rw [this] at hrs
          exact absurd hrs (by decide)
        have elh : atI ((rs.map Rl.hi).map V.str) (-1) = some (.str ((rs.map Rl.hi).getLast hne)) := by
          have e0 : (rs.map Rl.hi).map V.str = ((rs.map Rl.hi).dropLast.map V.str) ++ [.str ((rs.map Rl.hi).getLast hne)] := by
            have := List.dropLast_concat_getLast hne
            rw [show [V.str ((rs.map Rl.hi).getLast hne)] = [(rs.map Rl.hi).getLast hne].map V.str from rfl, ← List.map_append, this]
          rw [e0]
          exact atI_last _ _
        have j17 := s57 _ _ j1
        have j37 := s57 _ _ j3
        walk_at "go"
        refine ifb (fun h => ?_) fun h => ?_
        · walk_at "go"
          refine rd_ixL e7 elh ?_
          walk_at "go"
          refine pt7.ix e67 (k := 0) (by omega) fun b hb => ?_
          unfold endsL at hb
          walk_at "go"
          refine ifb (fun h1 => ?_) fun h1 => ?_
          · have ef7 := s57 _ _ ef
            walk_at "go"
            refine rd_appK ef7 (by rw [List.length_map]; exact Nat.lt_of_le_of_lt (m := 3200000) (by omega) (by decide)) fun H8 k8 e8 => ?_
            have tk8 := TK.trans (Same.tk s57) (kp_tk ef7 k8)
            have sp8 : SpAt R.length 8 H8 sa := ⟨is, kp_tk ef7 k8 _ _ es7, is1, by omega, isn⟩
            exact ⟨la, _, _, _, _, _, Fs' ++ [sa], Ls, rfl, same_kp (Same.trans s5 s57) hfa k8, by rw [e8, List.map_append] <;> rfl, k8 _ _ (s57 _ _ er) nra, k8 _ _ (s57 _ _ el) nla, nla, fun a ha => (List.mem_append.mp ha).elim (fun h => (hF a h).tk tk8) (fun h => by rw [List.mem_singleton.mp h]; exact sp8), fun a ha => (hR a ha).tk tk8, fun a ha => (hL a ha).tk tk8, by rw [List.length_append]; exact Nat.succ_le_succ lF, by omega⟩
          · walk_at "go"
            refine pt7.ix e67 (k := 0) (by omega) fun b hb => ?_
            unfold endsL at hb
            walk_at "go"
            refine ifb (fun h2 => ?_) fun h2 => ?_
            · walk_at "go"
              rw [List.length_map, h4.1]
              refine ⟨by omega, by omega, ?_⟩
              refine lcW (n := R.length) walk_r0 (fun i acc H8 => ∃ cs : List Addr, acc = cs.map V.ref ∧ cs.length ≤ i ∧ ∀ a ∈ cs, SpAt R.length (t + 2) H8 a) (fun _ _ _ _ t ⟨cs, a, b, c⟩ => ⟨cs, a, b, fun x hx => (c x hx).tk t⟩) ⟨[], rfl, Nat.le_refl _, fun a h => absurd h List.not_mem_nil⟩ (by omega) (fun _ _ => trivial) (fun i x acc H8 H8' hi s f _ hY Qy Qn hQ hQn => ?_) fun l9 H8 acc hl9 s8 e8 f _ => ?_
              · obtain ⟨rfl, rfl⟩ := hY
                obtain ⟨cs, rfl, c1, c2⟩ := f
                have sh8 := sh.tk (Same.tk (Same.trans s5 (Same.trans s57 s)))
                walk_at "go"
                refine ⟨p, l8, i, N, R, rs.map Rl.hi, rfl, sh8, hi, s _ _ e7, hne, fun H9 bb s9 => ?_⟩
                walk_at "go"
                refine ifb (fun h3 => ?_) fun h3 => ?_
                · have es9 := s9 _ _ (s _ _ es7)
                  walk_at "go"
                  refine ⟨szc rfl, fun pk hpk => ?_⟩
                  have s10 := same_new (o := .tup [.int (i : Nat)]) hpk
                  refine rd_catT (s10 _ _ es9) upd_same (sz (by simp; omega)) fun pq H11 s11 e11 => ?_
                  have sA := Same.trans s9 (Same.trans s10 s11)
                  refine hQ _ _ sA ⟨cs ++ [pq], by rw [List.map_append] <;> rfl, by rw [List.length_append]; exact Nat.succ_le_succ c1, fun a ha => ?_⟩
                  rcases List.mem_append.mp ha with h | h
                  · exact (c2 a h).tk (Same.tk sA)
                  · rw [List.mem_singleton.mp h]
                    refine ⟨is ++ [i], by rw [e11, List.map_append, List.map_append] <;> rfl, by rw [List.length_append]; exact Nat.le_add_left _ _, by rw [List.length_append]; exact Nat.succ_le_succ ism, fun y hy => ?_⟩
                    rcases List.mem_append.mp hy with h | h
                    · exact isn y h
                    · rw [List.mem_singleton.mp h]
                      exact hi
                · exact hQn _ s9 ⟨cs, rfl, Nat.le_succ_of_le c1, fun a ha => (c2 a ha).tk (Same.tk s9)⟩
              · obtain ⟨cs, rfl, c1, c2⟩ := f
                have s58 := Same.trans s57 s8
                have el8 := s58 _ _ el
                have lz : Ls.length + cs.length ≤ 9 * (j + 1) := by omega
                refine rd_catL el8 e8 (by rw [List.length_map, List.length_map]; exact Nat.le_trans lz (Nat.le_trans (Nat.mul_le_mul_left 9 (Nat.le_trans hj lR6)) (by decide))) fun lb hlb => ?_
                have s9 := same_new (o := .lst (Ls.map V.ref ++ cs.map V.ref)) hlb
                have nlb : lb ≠ fa := fun z => by
                  have := s58 _ _ ef
                  rw [← z, hlb] at this
                  cases this
                have s59 := Same.trans s58 s9
                exact ⟨lb, _, _, _, _, _, Fs', Ls ++ cs, rfl, Same.trans s5 s59, s59 _ _ ef, s59 _ _ er, by rw [upd_same, List.map_append], nlb, fun a ha => (hF a ha).tk (Same.tk s59), fun a ha => (hR a ha).tk (Same.tk s59), fun a ha => (List.mem_append.mp ha).elim (fun h => (hL a h).tk (Same.tk s59)) fun h => (c2 a h).tk (Same.tk s9), Nat.le_succ_of_le lF, by rw [List.length_append]; exact lz⟩
            · walk_at "go"
              exact ⟨la, _, _, _, _, _, Fs', Ls, rfl, Same.trans s5 s57, s57 _ _ ef, s57 _ _ er, s57 _ _ el, nla, fun a ha => (hF a ha).tk (Same.tk s57), fun a ha => (hR a ha).tk (Same.tk s57), fun a ha => (hL a ha).tk (Same.tk s57), Nat.le_succ_of_le lF, by omega⟩
        · walk_at "go"
          refine pt7.ix e67 (k := 0) (by omega) fun b hb => ?_
          unfold endsL at hb
          walk_at "go"
          refine ifb (fun h2 => ?_) fun h2 => ?_
          · walk_at "go"
            rw [List.length_map, h4.1]
            refine ⟨by omega, by omega, ?_⟩
            refine lcW (n := R.length) walk_r0 (fun i acc H8 => ∃ cs : List Addr, acc = cs.map V.ref ∧ cs.length ≤ i ∧ ∀ a ∈ cs, SpAt R.length (t + 2) H8 a) (fun _ _ _ _ t ⟨cs, a, b, c⟩ => ⟨cs, a, b, fun x hx => (c x hx).tk t⟩) ⟨[], rfl, Nat.le_refl _, fun a h => absurd h List.not_mem_nil⟩ (by omega) (fun _ _ => trivial) (fun i x acc H8 H8' hi s f _ hY Qy Qn hQ hQn => ?_) fun l9 H8 acc hl9 s8 e8 f _ => ?_
            · obtain ⟨rfl, rfl⟩ := hY
              obtain ⟨cs, rfl, c1, c2⟩ := f
              have sh8 := sh.tk (Same.tk (Same.trans s5 (Same.trans s57 s)))
              walk_at "go"
              refine ⟨p, l8, i, N, R, rs.map Rl.hi, rfl, sh8, hi, s _ _ e7, hne, fun H9 bb s9 => ?_⟩
              walk_at "go"
              refine ifb (fun h3 => ?_) fun h3 => ?_
              · have es9 := s9 _ _ (s _ _ es7)
                walk_at "go"
                refine ⟨szc rfl, fun pk hpk => ?_⟩
                have s10 := same_new (o := .tup [.int (i : Nat)]) hpk
                refine rd_catT (s10 _ _ es9) upd_same (sz (by simp; omega)) fun pq H11 s11 e11 => ?_
                have sA := Same.trans s9 (Same.trans s10 s11)
                refine hQ _ _ sA ⟨cs ++ [pq], by rw [List.map_append] <;> rfl, by rw [List.length_append]; exact Nat.succ_le_succ c1, fun a ha => ?_⟩
                rcases List.mem_append.mp ha with h | h
                · exact (c2 a h).tk (Same.tk sA)
                · rw [List.mem_singleton.mp h]
                  refine ⟨is ++ [i], by rw [e11, List.map_append, List.map_append] <;> rfl, by rw [List.length_append]; exact Nat.le_add_left _ _, by rw [List.length_append]; exact Nat.succ_le_succ ism, fun y hy => ?_⟩
                  rcases List.mem_append.mp hy with h | h
                  · exact isn y h
                  · rw [List.mem_singleton.mp h]
                    exact hi
              · exact hQn _ s9 ⟨cs, rfl, Nat.le_succ_of_le c1, fun a ha => (c2 a ha).tk (Same.tk s9)⟩
            · obtain ⟨cs, rfl, c1, c2⟩ := f
              have s58 := Same.trans s57 s8
              have el8 := s58 _ _ el
              have lz : Ls.length + cs.length ≤ 9 * (j + 1) := by omega
              refine rd_catL el8 e8 (by rw [List.length_map, List.length_map]; exact Nat.le_trans lz (Nat.le_trans (Nat.mul_le_mul_left 9 (Nat.le_trans hj lR6)) (by decide))) fun lb hlb => ?_
              have s9 := same_new (o := .lst (Ls.map V.ref ++ cs.map V.ref)) hlb
              have nlb : lb ≠ fa := fun z => by
                have := s58 _ _ ef
                rw [← z, hlb] at this
                cases this
              have s59 := Same.trans s58 s9
              exact ⟨lb, _, _, _, _, _, Fs', Ls ++ cs, rfl, Same.trans s5 s59, s59 _ _ ef, s59 _ _ er, by rw [upd_same, List.map_append], nlb, fun a ha => (hF a ha).tk (Same.tk s59), fun a ha => (hR a ha).tk (Same.tk s59), fun a ha => (List.mem_append.mp ha).elim (fun h => (hL a h).tk (Same.tk s59)) fun h => (c2 a h).tk (Same.tk s9), Nat.le_succ_of_le lF, by rw [List.length_append]; exact lz⟩
          · walk_at "go"
            exact ⟨la, _, _, _, _, _, Fs', Ls, rfl, Same.trans s5 s57, s57 _ _ ef, s57 _ _ er, s57 _ _ el, nla, fun a ha => (hF a ha).tk (Same.tk s57), fun a ha => (hR a ha).tk (Same.tk s57), fun a ha => (hL a ha).tk (Same.tk s57), Nat.le_succ_of_le lF, by omega⟩
      · subst eσ
        walk_at "go"
        exact ⟨la, _, _, _, _, _, _, _, Fs', Ls, rfl, s5, ef, el, nla, hF, hL, by omega, by
          have e9 : 9 ^ (t + 1 + 1) = 9 ^ (t + 1) * 9 := Nat.pow_succ ..
          omega⟩
    · subst eσ
      walk_at "go"
      exact q _ fa Fs s3 hfa ef hF (by omega)
end
end K59
/-! K59Fill -/
set_option Elab.async false
set_option linter.all false
set_option maxRecDepth 100000
set_option maxHeartbeats 4000000
namespace K59
open PySem PySem.W PySem.Calls PySem.Spec PyProof.Rows L2

/-! ### fillings, in plain Lean -/
/-- the values f are consistent with the table over the nodes in Ks -/
def Con (T : TF) (Ks : List Str) (f : Str → Int) : Prop := ∀ a ∈ Ks, ∀ b ∈ Ks, ∀ w, T a b = some w → f a - f b ≤ w
def setF (f : Str → Int) (t : Str) (v : Int) : Str → Int := fun x => if x = t then v else f x
theorem setF_at (f : Str → Int) (t : Str) (v : Int) : setF f t v t = v := if_pos rfl
theorem setF_ne {f : Str → Int} {t x : Str} {v : Int} (h : x ≠ t) : setF f t v x = f x := if_neg h
theorem Con.snoc {N : List Str} {R : List Rl} {T : TF} {Ks : List Str} {f : Str → Int} {t : Str} {v : Int} (ok : TabOk N R T) (c : Con T Ks f) (ht : t ∈ eS :: N) (hk : t ∉ Ks) (lo : ∀ m ∈ Ks, ∀ w, T m t = some w → f m - w ≤ v) (hi : ∀ m ∈ Ks, ∀ w, T t m = some w → v ≤ f m + w) : Con T (Ks ++ [t]) (setF f t v) := by
  intro a ha b hb w e
  rcases List.mem_append.mp ha with ha1 | ha1
  · have na : a ≠ t := fun z => hk (z ▸ ha1)
    rcases List.mem_append.mp hb with hb1 | hb1
    · have nb : b ≠ t := fun z => hk (z ▸ hb1)
      rw [setF_ne na, setF_ne nb]
      exact c a ha1 b hb1 w e
    · have eb := List.mem_singleton.mp hb1
      rw [eb] at e ⊢
      rw [setF_ne na, setF_at]
      have := lo a ha1 w e
      omega
  · have ea := List.mem_singleton.mp ha1
    rw [ea] at e ⊢
    rcases List.mem_append.mp hb with hb1 | hb1
    · have nb : b ≠ t := fun z => hk (z ▸ hb1)
      rw [setF_ne nb, setF_at]
      have := hi b hb1 w e
      omega
    · have eb := List.mem_singleton.mp hb1
      rw [eb] at e ⊢
      rw [ok.dg t ht] at e
      cases e
      omega
/-- low is at most high -/
theorem Con.room {N : List Str} {R : List Rl} {T : TF} {Ks : List Str} {f : Str → Int} {t m m' : Str} {u v : Int} (ok : TabOk N R T) (c : Con T Ks f) (hK : ∀ k ∈ Ks, k ∈ eS :: N) (ht : t ∈ eS :: N) (hm : m ∈ Ks) (hm' : m' ∈ Ks) (e1 : T m t = some u) (e2 : T t m' = some v) : f m - u ≤ f m' + v := by
  obtain ⟨w, e, l⟩ := ok.cl t ht m (hK m hm) m' (hK m' hm') u v e1 e2
  have := c m hm m' hm' w e
  omega
theorem cellF {N : List Str} {f : Str → Int} (h0 : f eS = 0) {x : Str} (hx : x ∈ eS :: N) : cell (N.map f) (posN N x) = f x := by
  unfold cell posN
  by_cases h : x = eS
  · rw [if_pos h, h, h0] <;> rfl
  · rw [if_neg h, Nat.add_comm, List.getElem?_cons_succ, List.getElem?_map, (ixOf_get ((List.mem_cons.mp hx).elim (fun z => absurd z h) id)).1] <;> rfl
theorem good_of {N : List Str} {R : List Rl} {T : TF} {f : Str → Int} (fo : FormOk N R) (ok : TabOk N R T) (h0 : f eS = 0) (c : Con T (eS :: N) f) (b : ∀ x ∈ N, -400000 ≤ f x ∧ f x ≤ 400000) : goodB N R (.tuple ((N.map f).map PyData.int)) = true := by
  have e1 : areVals N.length (.tuple ((N.map f).map PyData.int)) = true := by
    show (decide (((N.map f).map PyData.int).length = N.length) && ((N.map f).map PyData.int).all (btwD (-1000000000) 1000000000)) = true
    rw [Bool.and_eq_true]
    refine ⟨decide_eq_true (by rw [List.length_map, List.length_map]), List.all_eq_true.mpr fun d hd => ?_⟩
    obtain ⟨i, hi, rfl⟩ := List.mem_map.mp hd
    obtain ⟨x, hx, rfl⟩ := List.mem_map.mp hi
    have := b x hx
    show (decide (-1000000000 ≤ f x) && decide (f x ≤ 1000000000)) = true
    rw [decide_eq_true (by omega), decide_eq_true (by omega)] <;> rfl
  have e2 : ((N.map f).map PyData.int).map intOf = N.map f := by
    rw [List.map_map]
    exact List.map_congr_left (fun x _ => rfl) |>.trans (List.map_id _)
  show (areVals N.length (.tuple ((N.map f).map PyData.int)) && R.all (keepsB N (((N.map f).map PyData.int).map intOf))) = true
  rw [e1, e2, Bool.true_and]
  refine List.all_eq_true.mpr fun r hr => ?_
  have or := fo.rl r hr
  obtain ⟨w, e, l⟩ := ok.rl r hr
  unfold keepsB
  rw [cellF h0 or.hi, cellF h0 or.lo]
  have := c r.hi or.hi r.lo or.lo w e
  exact decide_eq_true (by omega)
/-! ### rings of sum 0 -/
theorem sum_diff (g : Str → Int) : ∀ (rs : List Rl), (rs.map fun r => g r.hi - g r.lo).sum = (rs.map fun r => g r.hi).sum - (rs.map fun r => g r.lo).sum
  | [] => rfl
  | r :: rs => by
    rw [List.map_cons, List.map_cons, List.map_cons, List.sum_cons, List.sum_cons, List.sum_cons, sum_diff g rs]
    omega
end K59
/-! K59L13 -/
set_option Elab.async false
set_option linter.all false
set_option maxRecDepth 100000
set_option maxHeartbeats 4000000
namespace K59
open PySem PySem.W PySem.Calls PySem.Spec PyProof.Rows L2
local macro_rules | `(tactic| walk_at "hp") => `(tactic| first
  | assumption
  | exact upd_same
  | (refine same_new (by assumption) _ _ ?_; walk_at "hp")
  | (refine (by assumption : Same _ _) _ _ ?_; walk_at "hp")
  | (refine FK.tk (by assumption) (by assumption) _ _ ?_; walk_at "hp"))
local macro_rules | `(tactic| walk_at "sq") => `(tactic| first
  | assumption
  | exact FrzT.sq (by assumption)
  | (refine sqt_new (by assumption) ?_; walk_at "sq")
  | (refine sqt_same ?_ (by assumption); walk_at "sq"))
local macro_rules | `(tactic| walk_at "fz") => `(tactic| first
  | assumption
  | (refine frz_new (by assumption) ?_; walk_at "fz")
  | (refine FrzT.same ?_ (by assumption); walk_at "fz"))
local macro_rules | `(tactic| walk_at "ic") => `(tactic| first
  | ((with_reducible show (0 : Int) < _); decide)
  | exact Or.inl ⟨by decide, by decide⟩
  | exact Or.inr ⟨by decide, by decide⟩
  | exact (show (0 : Int) < _ ∧ _ < (1073741824 : Int) from ⟨by decide, by decide⟩)
  | exact (show (0 : Int) ≤ _ ∧ _ ≤ (1000000 : Int) ∧ Int.natAbs _ < 2 ^ 64 from ⟨by decide, by decide, by decide⟩)
  | exact (⟨by decide, by decide, by decide⟩ : _ ∧ _ ∧ _))
local macro_rules | `(tactic| walk_at "st") => `(tactic| first
  | with_reducible refine rd_var rfl ?_
  | with_reducible refine rd_c ?_
  | with_reducible refine rd_cons ?_
  | with_reducible refine rd_nil ?_
  | with_reducible refine rd_op ?_
  | with_reducible refine rd_cb ?_
  | with_reducible refine rd_call ?_
  | with_reducible refine rd_test ?_
  | with_reducible refine rd_B ?_
  | with_reducible refine rd_bl ?_
  | with_reducible refine rd_un ?_
  | with_reducible refine rd_and ?_
  | with_reducible refine rd_or ?_
  | with_reducible refine rd_not ?_
  | with_reducible refine rd_andV ?_
  | with_reducible refine rd_orV ?_
  | with_reducible refine rd_notV ?_
  | with_reducible refine rd_if ?_
  | with_reducible refine rd_chain ?_
  | with_reducible refine rd_I0 ?_
  | with_reducible refine rd_U ?_
  | with_reducible refine rd_eqI ?_
  | with_reducible refine rd_neI ?_
  | with_reducible refine rd_eqS ?_
  | with_reducible refine rd_neS ?_
  | with_reducible refine rd_nn ?_
  | with_reducible refine rd_asg ?_
  | with_reducible refine rd_gname ?_
  | with_reducible refine rd_seq ?_
  | with_reducible refine rd_ifS ?_
  | with_reducible refine rd_ret ?_
  | with_reducible refine rd_next ?_
  | with_reducible refine rd_cont ?_
  | with_reducible refine rd_drop ?_
  | with_reducible refine rd_par ?_
  | with_reducible refine rd_vs2 ?_
  | with_reducible refine rd_gsub ?_
  | with_reducible refine rd_gcons ?_
  | with_reducible refine rd_gnil ?_
  | with_reducible refine rd_tup ?_
  | with_reducible refine rd_lst ?_
  | with_reducible refine rd_sl ?_
  | with_reducible refine rd_part ?_
  | with_reducible refine rd_nopart ?_
  | with_reducible refine rd_i1 ?_
  | with_reducible refine rd_bm ?_
  | with_reducible refine rd_yes ?_
  | with_reducible refine rd_lcT ?_
  | with_reducible refine rd_lcL ?_
  | with_reducible refine rd_lcR1 ?_
  | with_reducible refine rd_lcS ?_
  | with_reducible refine rd_forT ?_
  | with_reducible refine rd_forL ?_
  | with_reducible refine rd_forR1 ?_
  | with_reducible refine rd_atS ?_
  | with_reducible refine rd_forEn ?_
  | with_reducible refine rd_dget ?_
  | with_reducible refine rd_din ?_
  | with_reducible refine rd_dget2 ?_
  | with_reducible refine rd_dput ?_
  | with_reducible refine rd_disp ?_
  | with_reducible refine rd_pcons ?_
  | with_reducible refine rd_pnil ?_
  | with_reducible refine rd_dcL ?_
  | with_reducible refine rd_lcEn ?_
  | with_reducible refine rd_yS ?_
  | with_reducible refine rd_m1 ?_
  | with_reducible refine rd_meth ?_
  | with_reducible refine rd_fld ?_
  | with_reducible refine rd_sfld ?_
  | with_reducible refine rd_make ?_
  | with_reducible refine rd_fmt ?_
  | with_reducible refine rd_js ?_
  | with_reducible refine rd_js0 ?_
  | with_reducible refine iteT ?_
  | with_reducible refine iteF ?_
  | ((with_reducible refine isi_int (d := ?d1) (N := ?n1) ?h1 ?_); (case h1 => assumption))
  | ((with_reducible refine isi_bool (d := ?d1) (N := ?n1) ?h1 ?_); (case h1 => assumption))
  | ((with_reducible refine isi_str (d := ?d1) (N := ?n1) ?h1 ?_); (case h1 => assumption))
  | ((with_reducible refine isi_tuple (d := ?d1) (N := ?n1) ?h1 ?_); (case h1 => assumption))
  | with_reducible refine isi_str (N := fun _ => True) (Da.str _) ?_
  | with_reducible refine isi_int (N := fun _ => True) (Da.int _) ?_
  | with_reducible refine isi_bool (N := fun _ => True) (Da.int _) ?_
  | with_reducible refine isi_str (N := fun _ => True) (Da.int _) ?_
  | ((with_reducible show (wipe _ _ = wipe _ _) ∧ _); refine ⟨rfl, ?_⟩)
  | ((with_reducible show Ends.nx _ _ _); dsimp only)
  | ((with_reducible show Ends.rt _ _ _); dsimp only)
  | ((with_reducible show Ends.ct _ _ _); dsimp only)
  | ((with_reducible refine rd_ixT (xs := ?x1) (v := ?v1) ?h1 ?e1 ?_); (case h1 => walk_at "hp"); (case e1 => rfl))
  | ((with_reducible refine rd_ixL (xs := ?x1) (v := ?v1) ?h1 ?e1 ?_); (case h1 => walk_at "hp"); (case e1 => rfl))
  | ((with_reducible refine rd_lenT (xs := ?x1) ?h1 ?_); (case h1 => walk_at "hp"))
  | ((with_reducible refine rd_lenL (xs := ?x1) ?h1 ?_); (case h1 => walk_at "hp"))
  | ((with_reducible refine rd_tupOf (xs := ?x1) ?h1 ?_); (case h1 => walk_at "hp"))
  | ((with_reducible refine rd_all (bs := ?x1) ?h1 ?_); (case h1 => walk_at "hp"))
  | ((with_reducible refine rd_atT (xs := ?x1) ?h1 ?_); (case h1 => walk_at "hp"))
  | ((with_reducible refine rd_atL (xs := ?x1) ?h1 ?_); (case h1 => walk_at "hp"))
  | ((with_reducible refine rd_gtup (xs := ?x1) ?h1 ?e1 ?_); (case h1 => walk_at "hp"); (case e1 => rfl))
  | ((with_reducible refine rd_atEn (xs := ?x1) ?h1 ?_); (case h1 => walk_at "hp"))
  | ((with_reducible refine rd_slT (xs := ?x1) ?h1 ?_); (case h1 => walk_at "hp"))
  | ((with_reducible refine rd_slL (xs := ?x1) ?h1 ?_); (case h1 => walk_at "hp"))
  | ((with_reducible refine rd_inN (N := ?x1) ?h1 ?_); (case h1 => walk_at "hp"))
  | ((with_reducible refine rd_inL (N := ?x1) ?h1 ?_); (case h1 => walk_at "hp"))
  | ((with_reducible refine rd_notInN (N := ?x1) ?h1 ?_); (case h1 => walk_at "hp"))
  | ((with_reducible refine rd_notInL (N := ?x1) ?h1 ?_); (case h1 => walk_at "hp"))
  | with_reducible refine rd_tm ?_
  | ((with_reducible refine rd_isF (xs := ?x1) ?h1 ?_); (case h1 => walk_at "fz"))
  | ((with_reducible refine rd_lenTq (xs := ?x1) ?h1 ?_); (case h1 => walk_at "sq"))
  | ((with_reducible refine rd_atTq (xs := ?x1) ?h1 ?_); (case h1 => walk_at "sq"))
  | ((with_reducible refine rd_atEnq (xs := ?x1) ?h1 ?_); (case h1 => walk_at "sq"))
  | ((with_reducible refine rd_slTq (xs := ?x1) ?h1 ?_); (case h1 => walk_at "sq"))
  | ((with_reducible refine rd_inNq (N := ?x1) ?h1 ?_); (case h1 => walk_at "sq"))
  | ((with_reducible refine rd_setL (xs := ?x1) (j := ?j1) ?h1 ?e1 ?_); (case h1 => walk_at "hp"); (case e1 => rfl))
  | with_reducible refine rd_int1 ?_
  | with_reducible refine rd_x1 ?_
  | with_reducible refine rd_x2 ?_
  | ((with_reducible refine rd_tyL (xs := ?x1) ?h1 ?_); (case h1 => walk_at "hp"))
  | ((with_reducible refine rd_ixsL (xs := ?x1) (v := ?v1) ?h1 ?e1 ?_); (case h1 => walk_at "hp"); (case e1 => rfl))
  | ((with_reducible refine rd_ixsT (xs := ?x1) (v := ?v1) ?h1 ?e1 ?_); (case h1 => walk_at "hp"); (case e1 => rfl))
  | ((with_reducible refine rd_I ?c1 ?_); (case c1 => walk_at "ic"))
  | ((with_reducible refine if_t ?hb1 ?_); (case hb1 => rfl))
  | ((with_reducible refine if_f ?hb1 ?_); (case hb1 => rfl)))
local macro_rules | `(tactic| walk_at "go") => `(tactic| repeat (first | walk_at "st" | dsimp only))
section
variable {P : Program} {w : World} {K : Frag} {mg : Str → Option Value} {base : Heap}

theorem same_lock {H H2 : Hp} {D : Addr} {u o : HO} (e : H D = some u) (s : Same (upd H D o) H2) : Same H (upd H2 D u) := fun b o' e' => by
  by_cases h : b = D
  · subst h
    rw [upd_same, ← e, e']
  · rw [upd_ne h]
    exact s b o' (by rw [upd_ne h]; exact e')
def kvsF (Ks : List Str) (f : Str → Int) : List (Key × V) := Ks.map fun x => ((.inr x : Key), V.int (f x))
theorem kvsF_val {f : Str → Int} : ∀ {Ks : List Str} {m : Str}, m ∈ Ks → valV (kvsF Ks f) (.inr m) = some (.int (f m))
  | [], _, h => by cases h
  | x :: Ks, m, h => by
    show valV (((.inr x : Key), V.int (f x)) :: kvsF Ks f) (.inr m) = _
    by_cases e : x = m
    · rw [valV_pos (by rw [e]), e]
    · rw [valV_neg fun z => e (Sum.inr.inj z)]
      exact kvsF_val ((List.mem_cons.mp h).elim (fun z => absurd z.symm e) id)
theorem kvsF_none {f : Str → Int} : ∀ {Ks : List Str} {m : Str}, m ∉ Ks → valV (kvsF Ks f) (.inr m) = none
  | [], _, _ => rfl
  | x :: Ks, m, h => by
    show valV (((.inr x : Key), V.int (f x)) :: kvsF Ks f) (.inr m) = _
    have e : x ≠ m := fun z => h (z ▸ List.mem_cons_self)
    rw [valV_neg fun z => e (Sum.inr.inj z)]
    exact kvsF_none fun z => h (List.mem_cons_of_mem _ z)
theorem kvsF_put {Ks : List Str} {f : Str → Int} {t : Str} {v : Int} (h : t ∉ Ks) : putK (kvsF Ks f) (.inr t) (.int v) = kvsF (Ks ++ [t]) (setF f t v) := by
  rw [putK_new _ (kvsF_none h)]
  unfold kvsF
  rw [List.map_append]
  have e : (Ks.map fun x => ((.inr x : Key), V.int (setF f t v x))) = Ks.map fun x => ((.inr x : Key), V.int (f x)) := List.map_congr_left fun x hx => by rw [setF_ne fun (z : x = t) => h (by rw [← z]; exact hx)]
  rw [e]
  show _ = _ ++ [((.inr t : Key), V.int (setF f t v t))]
  rw [setF_at]
def lowsF (T : TF) (t : Str) (f : Str → Int) (Ks : List Str) : List Int := Ks.filterMap fun m => (T m t).map fun w => f m - w
def highsF (T : TF) (t : Str) (f : Str → Int) (Ks : List Str) : List Int := Ks.filterMap fun m => (T t m).map fun w => f m + w
theorem lowsF_mem {T : TF} {t : Str} {f : Str → Int} {Ks : List Str} {x : Int} : x ∈ lowsF T t f Ks ↔ ∃ m ∈ Ks, ∃ w, T m t = some w ∧ f m - w = x := by
  unfold lowsF
  rw [List.mem_filterMap]
  constructor
  · rintro ⟨m, hm, e⟩
    obtain ⟨w, h1, h2⟩ := Option.map_eq_some_iff.mp e
    exact ⟨m, hm, w, h1, h2⟩
  · rintro ⟨m, hm, w, h1, h2⟩
    exact ⟨m, hm, Option.map_eq_some_iff.mpr ⟨w, h1, h2⟩⟩
theorem highsF_mem {T : TF} {t : Str} {f : Str → Int} {Ks : List Str} {x : Int} : x ∈ highsF T t f Ks ↔ ∃ m ∈ Ks, ∃ w, T t m = some w ∧ f m + w = x := by
  unfold highsF
  rw [List.mem_filterMap]
  constructor
  · rintro ⟨m, hm, e⟩
    obtain ⟨w, h1, h2⟩ := Option.map_eq_some_iff.mp e
    exact ⟨m, hm, w, h1, h2⟩
  · rintro ⟨m, hm, w, h1, h2⟩
    exact ⟨m, hm, Option.map_eq_some_iff.mpr ⟨w, h1, h2⟩⟩
/-- what is picked fits -/
theorem pick_ok {L U : List Int} {low high : Int} {C : Int} (hC : C ≤ 500000) (hC0 : 0 ≤ C) (bL : ∀ x ∈ L, -C ≤ x ∧ x ≤ C) (bU : ∀ x ∈ U, -C ≤ x ∧ x ≤ C) (room : ∀ x ∈ L, ∀ y ∈ U, x ≤ y) (l1 : low ∈ L ++ [-1000000]) (l2 : ∀ x ∈ L ++ [-1000000], x ≤ low) (h1 : high ∈ U ++ [1000000]) (h2 : ∀ x ∈ U ++ [1000000], high ≤ x) :
    low ≤ high ∧ (L ≠ [] → -C ≤ low ∧ low ≤ C) ∧ (U ≠ [] → -C ≤ high ∧ high ≤ C) ∧ (∀ x ∈ L, x ≤ low) ∧ ∀ x ∈ U, high ≤ x := by
  have a1 : L ≠ [] → low ∈ L := fun h => by
    rcases List.mem_append.mp l1 with g | g
    · exact g
    · obtain ⟨x, xs, rfl⟩ := List.exists_cons_of_ne_nil h
      have := l2 x (List.mem_append.mpr (.inl List.mem_cons_self))
      have := bL x List.mem_cons_self
      have := List.mem_singleton.mp g
      omega
  have a2 : U ≠ [] → high ∈ U := fun h => by
    rcases List.mem_append.mp h1 with g | g
    · exact g
    · obtain ⟨x, xs, rfl⟩ := List.exists_cons_of_ne_nil h
      have := h2 x (List.mem_append.mpr (.inl List.mem_cons_self))
      have := bU x List.mem_cons_self
      have := List.mem_singleton.mp g
      omega
  refine ⟨?_, fun h => bL _ (a1 h), fun h => bU _ (a2 h), fun x hx => l2 x (List.mem_append.mpr (.inl hx)), fun x hx => h2 x (List.mem_append.mpr (.inl hx))⟩
  rcases List.mem_append.mp l1 with g | g
  · have := bL _ g
    rcases List.mem_append.mp h1 with k | k
    · exact room _ g _ k
    · have := List.mem_singleton.mp k
      omega
  · have := List.mem_singleton.mp g
    rcases List.mem_append.mp h1 with k | k
    · have := bU _ k
      omega
    · have := List.mem_singleton.mp k
      omega
theorem rd_lcK {d : Addr} {o : Obj} {kvs : List (Key × V)} {g : TG} {tt : TT} {te : TE} {vs : List Nat} {σ : L2.St} {H : Hp} {Q : VK} {i : Nat} (h : σ[i]? = some (some (.ref d))) (e : H d = some (.frz o (.dK kvs))) (q : LcAt (Itk d o kvs) g tt te vs σ H Q) : tLc (iKeys (tVar i)) g tt te vs σ H Q := ⟨_, h, d, o, rfl, .inl ⟨kvs, e, q⟩⟩
theorem kvsF_at {Ks : List Str} {f : Str → Int} {i : Nat} {k : Key} {v : V} (h : (kvsF Ks f)[i]? = some (k, v)) : ∃ m, Ks[i]? = some m ∧ m ∈ Ks ∧ k = .inr m ∧ v = .int (f m) := by
  unfold kvsF at h
  rw [List.getElem?_map] at h
  obtain ⟨m, e, z⟩ := Option.map_eq_some_iff.mp h
  cases z
  exact ⟨m, e, List.mem_of_getElem? e, rfl, rfl⟩
theorem kvsF_len {Ks : List Str} {f : Str → Int} : (kvsF Ks f).length = Ks.length := List.length_map _
theorem lowsF_snoc {T : TF} {t : Str} {f : Str → Int} {Ks : List Str} {i : Nat} {m : Str} (h : Ks[i]? = some m) : lowsF T t f (Ks.take (i + 1)) = lowsF T t f (Ks.take i) ++ ((T m t).map fun w => f m - w).toList := by
  unfold lowsF
  rw [List.take_add_one, h, List.filterMap_append]
  show _ ++ List.filterMap _ [m] = _
  cases e : T m t <;> simp [List.filterMap, e]
theorem highsF_snoc {T : TF} {t : Str} {f : Str → Int} {Ks : List Str} {i : Nat} {m : Str} (h : Ks[i]? = some m) : highsF T t f (Ks.take (i + 1)) = highsF T t f (Ks.take i) ++ ((T t m).map fun w => f m + w).toList := by
  unfold highsF
  rw [List.take_add_one, h, List.filterMap_append]
  show _ ++ List.filterMap _ [m] = _
  cases e : T t m <;> simp [List.filterMap, e]
theorem lowsF_len {T : TF} {t : Str} {f : Str → Int} {Ks : List Str} : (lowsF T t f Ks).length ≤ Ks.length := List.length_filterMap_le _ _
theorem highsF_len {T : TF} {t : Str} {f : Str → Int} {Ks : List Str} : (highsF T t f Ks).length ≤ Ks.length := List.length_filterMap_le _ _
theorem FK.mutN {F D : Addr} {H H3 : Hp} {o : HO} (k : FK F H H3) (f : Fl H F) (h : H D = none) : FK F H (upd H3 D o) := by
  have n := f.ne_new h
  refine ⟨?_, fun b o' e nb => ?_⟩
  · obtain ⟨a, b, c, e⟩ := k.fl
    exact ⟨a, b, c, by rw [upd_ne n.symm]; exact e⟩
  · rw [upd_ne fun z => by rw [z, h] at e; cases e]
    exact k.kp b o' e nb
theorem DT.fk {F : Addr} {H H3 : Hp} {D : Addr} {T : TF} {c : Nat} (h : DT H D T c) (k : FK F H H3) (n : D ≠ F) : DT H3 D T c := by
  obtain ⟨kvs, a, b⟩ := h
  exact ⟨kvs, k.kp _ _ a n, b⟩
theorem DT.updn {H : Hp} {D E : Addr} {o : HO} {T : TF} {c : Nat} (h : DT H D T c) (n : D ≠ E) : DT (upd H E o) D T c := by
  obtain ⟨kvs, a, b⟩ := h
  exact ⟨kvs, by rw [upd_ne n]; exact a, b⟩
theorem seq_cut2 {a b rest : TS} {D : Ends} {σ : L2.St} {H : Hp} (Pv : L2.St → Hp → Prop) (q : ∀ Nx : L2.St → Hp → Prop, (∀ σ H, Pv σ H → Nx σ H) → tSeq a b { D with nx := Nx } σ H) (M : ∀ σ H, Pv σ H → rest D σ H) : tSeq a (tSeq b rest) D σ H := q (rest D) M
theorem ints_da {H : Hp} : ∀ {ns : List Int}, DaAll (fun _ => True) H (ns.map V.int) (ns.map PyData.int)
  | [] => .nil
  | _ :: _ => .cons (Da.int _) ints_da
theorem eqv_lnil {ns : List Int} : PyData.eqv (.list (ns.map PyData.int)) (.list []) = ns.isEmpty := by
  cases ns <;> rfl
theorem not_takeF {N : List Str} {j : Nat} {t : Str} (nd : N.Nodup) (h : N[j]? = some t) : t ∉ N.take j := fun z => by
  obtain ⟨i, hi, e⟩ := List.mem_iff_getElem.mp z
  rw [List.length_take] at hi
  rw [List.getElem_take] at e
  obtain ⟨hj, e2⟩ := List.getElem?_eq_some_iff.mp h
  have := (List.getElem_inj nd).mp (e.trans e2.symm)
  omega
theorem DGet.fk {H : Hp} {D : Addr} {o : Obj} {Ks : List Str} {f : Str → Int} {m : Str} (e : H D = some (.frz o (.dK (kvsF Ks f)))) (h : m ∈ Ks) : DGet H D (.str m) (some (.int (f m))) := .inl ⟨kvsF Ks f, .inr m, .inr ⟨o, e⟩, rfl, (kvsF_val h).symm⟩
abbrev N_L_some_fill : List Str := ["_law_flask_here", "_law_shape_here", "_law_table_here", "_law_known", "_law_tag", "_law_lows", "_law_mate", "_law_highs", "_law_low", "_law_high", "_law_side", "_law_step"]
theorem sc_L_some_fill : FnScope N_L_some_fill ["_law_flask_here", "_law_shape_here", "_law_table_here"] (defScope s_L_some_fill) := ⟨rfl, rfl, rfl, by decide +kernel, rfl, by decide +kernel, by decide +kernel⟩
def sp_fill : Sp := fun vs H Q _ => ∃ F p D c, ∃ N : List Str, ∃ R T, vs = [.ref F, .ref p, .ref D] ∧ Fl H F ∧ ShapeAt H p N R ∧ FormOk N R ∧ DT H D T c ∧ D ≠ F ∧ TabOk N R T ∧ ∀ H' q (f : Str → Int), FK F H H' → H' q = some (.tup ((N.map f).map V.int)) → f eS = 0 → Con T (eS :: N) f → (∀ x ∈ N, -400000 ≤ f x ∧ f x ≤ 400000) → Q (.ref q) H'
theorem c_L_some_fill (S : Sys K mg) : C8.Cal P w K mg base 3 "_law_some_fill" sp_fill [] := by
  refine calD S.f_D_L_some_fill S.g_L_some_fill sc_L_some_fill (fun _ _ _ _ _ _ us hl => match us, hl with | [_, _, _], _ => rfl) ?_ ?_
  · rintro vs H Q E ⟨_, _, _, _, _, _, _, rfl, _⟩
    rfl
  · rintro cdv A outer s H vs Q E hr ⟨F, p, Dt, c, N, R, T, rfl, fl, sh, fo, dt, nDF, ok, q⟩
    refine ⟨_, pss_cons (ps_set (i := 3) sc_L_some_fill.nd rfl (Or.inr rfl) (pe_disp (pps_cons pe_str pe_int pps_nil) (by rfl) (by rfl) (fun z => by cases z) (by decide)))
      (pss_cons (ps_for PassesOwn.never rfl (pi_tupC (K := K) rfl (pe_ix (ix_tupC (K := K) rfl) (pv 1) pe_int (fun _ _ => rfl))) (pg_name (i := 4) sc_L_some_fill.nd rfl (Or.inr rfl))
        (pss_cons (ps_lock (ps_setLc (i := 5) (own := [("_law_mate", 6)]) (g := gName 6) rfl sc_L_some_fill.nd rfl rfl (sw_true rfl rfl rfl (by decide +kernel)) (pi_keys (pv 3)) (blkOk_by (N := N_L_some_fill) (sc := defScope s_L_some_fill) (by decide +kernel)) (fun _ _ _ _ _ => (pg_name (i := 6) sc_L_some_fill.nd rfl (Or.inl rfl))) (fun _ _ _ _ _ => pts_one (pt_cmp (pc_din (hu_of hr) (pe_tup (pa_cons (pv 6) (pa_cons (pv 4) pa_nil))) (pv 2)))) (fun _ _ _ _ _ => (pe_op op_sub (pe_dget (hu_of hr) (pv 3) (pv 6) (fun _ _ => rfl)) (pe_dget (hu_of hr) (pv 2) (pe_tup (pa_cons (pv 6) (pa_cons (pv 4) pa_nil))) (fun _ _ => rfl))))))
      (pss_cons (ps_lock (ps_setLc (i := 7) (own := [("_law_mate", 6)]) (g := gName 6) rfl sc_L_some_fill.nd rfl rfl (sw_true rfl rfl rfl (by decide +kernel)) (pi_keys (pv 3)) (blkOk_by (N := N_L_some_fill) (sc := defScope s_L_some_fill) (by decide +kernel)) (fun _ _ _ _ _ => (pg_name (i := 6) sc_L_some_fill.nd rfl (Or.inl rfl))) (fun _ _ _ _ _ => pts_one (pt_cmp (pc_din (hu_of hr) (pe_tup (pa_cons (pv 4) (pa_cons (pv 6) pa_nil))) (pv 2)))) (fun _ _ _ _ _ => (pe_op op_add (pe_dget (hu_of hr) (pv 3) (pv 6) (fun _ _ => rfl)) (pe_dget (hu_of hr) (pv 2) (pe_tup (pa_cons (pv 4) (pa_cons (pv 6) pa_nil))) (fun _ _ => rfl))))))
      (pss_cons (ps_par (i := 8) (j := 9) (by rfl) sc_L_some_fill.nd rfl rfl (by decide) rfl rfl (pa_cons (pe_callB (cr_maxC (K := K) rfl rfl) (by rfl) S.n_max (by decide +kernel) (pa_cons (pe_op op_cat (pv 5) (pe_lst (pa_cons (pe_un un_neg (pe_op op_pow pe_int pe_int)) pa_nil))) pa_nil)) (pa_cons (pe_callB (cr_minC (K := K) rfl rfl) (by rfl) S.n_min (by decide +kernel) (pa_cons (pe_op op_cat (pv 7) (pe_lst (pa_cons (pe_op op_pow pe_int pe_int) pa_nil))) pa_nil)) pa_nil)) (by rfl))
      (pss_cons (ps_if (PW.pt (pw_and (pt_cmpR (op_eqDC (K := K) rfl hr.units) (pv 5) (pe_lst pa_nil) (nomark _)) (pw_and1 (pt_cmpR (op_eqDC (K := K) rfl hr.units) (pv 7) (pe_lst pa_nil) (nomark _))))) (pss_one (ps_asg (pe_tup (pa_cons (pe_un un_neg pe_int) (pa_cons pe_int pa_nil))) (pg_tupC (K := K) rfl rfl (pgs_cons (pg_name (i := 8) sc_L_some_fill.nd rfl (Or.inl rfl)) (pgs_cons (pg_name (i := 9) sc_L_some_fill.nd rfl (Or.inl rfl)) pgs_nil))))) pss_nil)
      (pss_cons (ps_par (i := 10) (j := 11) (by rfl) sc_L_some_fill.nd rfl rfl (by decide) rfl rfl (pa_cons (C8.pe_c (c_L_drop (K := K) S) hr (by decide) rfl (pa_cons (pv 0) (pa_cons pe_int pa_nil))) (pa_cons (C8.pe_c (c_L_drop (K := K) S) hr (by decide) rfl (pa_cons (pv 0) (pa_cons (pe_callB (call_min2 rfl) (by rfl) S.n_min (by decide +kernel) (pa_cons (C8.pe_c (c_L_of (K := K) S) hr (by decide) rfl (pa_cons (pv 0) (pa_cons (pe_lst (pa_cons pe_int (pa_cons pe_int (pa_cons pe_int pa_nil)))) pa_nil))) (pa_cons (pe_op op_add (pe_op op_sub (pv 9) (pv 8)) pe_int) pa_nil))) pa_nil))) pa_nil)) (by rfl))
      (pss_one (ps_dput (hu_of hr) (pv 3) (pv 4) (pe_ifExp (PW.pt (pw_and (pt_cmpR (op_neDC (K := K) rfl hr.units) (pv 5) (pe_lst pa_nil) (nomark _)) (pw_and1 (PW.pt (pw_or (pt_cmpR op_eq (pv 10) pe_int (nomark _)) (pw_or1 (pt_cmpR (op_eqDC (K := K) rfl hr.units) (pv 7) (pe_lst pa_nil) (nomark _)))))))) (pe_op op_add (pv 8) (pv 11)) (pe_op op_sub (pv 9) (pv 11))) rfl))))))))
      (pss_one (ps_ret (pe_callTy (call_tuple_ofC (K := K) rfl) (by rfl) S.n_tuple (by decide +kernel) (pa_cons (pe_lc (own := [("_law_tag", 4)]) (g := gName 4) (tt := tYes) rfl sc_L_some_fill.nd (pi_tupC (K := K) rfl (pe_ix (ix_tupC (K := K) rfl) (pv 1) pe_int (fun _ _ => rfl))) (blkOk_by (N := N_L_some_fill) (sc := defScope s_L_some_fill) (by decide +kernel)) (fun _ _ _ _ _ => (pg_name (i := 4) sc_L_some_fill.nd rfl (Or.inl rfl))) (fun _ _ _ _ _ => pts_nil) (fun _ _ _ _ _ => (pe_dget (hu_of hr) (pv 3) (pv 4) (fun _ _ => rfl)))) pa_nil))))), ?_⟩
    have n5 := fo.n5
    obtain ⟨pf, pr, as, g1, g2, _, _⟩ := sh.ex
    walk_at "go"
    intro D hD
    refine ⟨upd_same, [(.inr eS, .int 0)], rfl, by decide, ?_⟩
    have k1 : FK F H (upd (upd H D (.dK [])) D (.dK (mergeK [] [(.inr eS, .int 0)]))) := ((FK.refl fl).mutN fl hD).mutN fl hD
    have e1 : upd (upd H D (.dK [])) D (.dK (mergeK [] [(.inr eS, .int 0)])) D = some (.dK (kvsF (eS :: N.take 0) fun _ => 0)) := by
      rw [upd_same, List.take_zero] <;> rfl
    generalize upd (upd H D (.dK [])) D (.dK (mergeK [] [(.inr eS, .int 0)])) = H1 at k1 e1
    have t1 := k1.tup fl g1
    have t2 := k1.tup fl g2
    walk_at "go"
    have nDt : Dt ≠ D := fun z => by
      obtain ⟨_, e, _⟩ := dt
      rw [z, hD] at e
      cases e
    refine forW (n := N.length) (G := fun H => SqT K H pf (N.map V.str)) (Y := YAt (N.map V.str)) (List.length_map (as := N) V.str ▸ walk_tup) (fun j σ H3 => ∃ x4 x5 x6 x7 x8 x9 x10 x11, ∃ f : Str → Int, σ = [some (.ref F), some (.ref p), some (.ref Dt), some (.ref D), x4, x5, x6, x7, x8, x9, x10, x11] ∧ FK F H H3 ∧ H3 D = some (.dK (kvsF (eS :: N.take j) f)) ∧ f eS = 0 ∧ Con T (eS :: N.take j) f ∧ (∀ x ∈ N.take j, -65000 * (j : Int) ≤ f x ∧ f x ≤ 65000 * (j : Int)))
      ⟨_, _, _, _, _, _, _, _, fun _ => 0, rfl, k1, e1, rfl, ?_, fun x h => by cases h⟩ (fun _ _ _ _ ⟨_, _, _, _, _, _, _, _, _, _, k, _⟩ => .inl (.inl (k.tup fl g2))) (fun j x σ H3 H3' hj ⟨x4, x5, x6, x7, x8, x9, x10, x11, f, eσ, k3, e3, f0, cf, bf⟩ hY => ?_) fun σ H3 ⟨x4, x5, x6, x7, x8, x9, x10, x11, f, eσ, k3, e3, f0, cf, bf⟩ => ?_
    · intro a ha b hb w e
      have ea := List.mem_singleton.mp ha
      have eb := List.mem_singleton.mp hb
      rw [ea, eb, ok.dg eS List.mem_cons_self] at e
      cases e
      exact Int.le_refl _
    · obtain ⟨rfl, hx⟩ := hY
      obtain ⟨t, rfl, ht, htm⟩ := get_names hx
      subst eσ
      have dt3 : DT H3' Dt T c := dt.fk k3 nDF
      have ks5 : (eS :: N.take j).length ≤ 6 := by
        rw [List.length_cons, List.length_take]
        omega
      refine rd_gname ?_
      refine rd_seq ⟨D, _, e3, trivial, fun od => rd_asg (rd_lcK rfl upd_same ?_)⟩
      refine lcW (n := (kvsF (eS :: N.take j) f).length) walk_keys (fun i acc _ => acc = (lowsF T t f ((eS :: N.take j).take i)).map V.int) (fun _ _ _ _ _ h => h) rfl (by rw [kvsF_len]; have := ks5; omega) (fun H1 s => s _ _ upd_same) (fun i x acc H5 H5' hi s5 fa _ hY Qy Qn hQ hN => ?_) fun L4 H5 acc hL4 s5 e5 fa _ => ?_
      · obtain ⟨rfl, k, v, hk, rfl⟩ := hY
        obtain ⟨m, hm, mK, rfl, rfl⟩ := kvsF_at hk
        have sn := lowsF_snoc (T := T) (t := t) (f := f) hm
        have dt5 : DT H5' Dt T c := (dt3.updn nDt).same s5
        have ed5 := s5 _ _ upd_same
        show gName 6 (.str m) _ _ _
        walk_at "go"
        refine ⟨szc rfl, fun q1 hq1 => ?_⟩
        have sA : Same H5' (upd H5' q1 (.tup [.str m, .str t])) := same_new hq1
        have eA : upd H5' q1 (.tup [.str m, .str t]) q1 = some (.tup [.str m, .str t]) := upd_same
        generalize upd H5' q1 (.tup [.str m, .str t]) = HA at sA eA
        walk_at "go"
        refine ⟨Dt, _, rfl, (dt5.same sA).get eA, ?_⟩
        cases hu : T m t with
        | none =>
          rw [hu] at sn
          walk_at "go"
          exact hN _ sA (by rw [fa, sn]; exact (congrArg (List.map V.int) (List.append_nil _)).symm)
        | some u =>
          rw [hu] at sn
          walk_at "go"
          refine ⟨D, _, rfl, DGet.fk (sA _ _ ed5) mK, ?_⟩
          walk_at "go"
          refine ⟨szc rfl, fun q2 hq2 => ?_⟩
          have sB : Same H5' (upd HA q2 (.tup [.str m, .str t])) := same_new2 sA hq2
          have eB : upd HA q2 (.tup [.str m, .str t]) q2 = some (.tup [.str m, .str t]) := upd_same
          generalize upd HA q2 (.tup [.str m, .str t]) = HB at sB eB
          have gB := (dt5.same sB).get eB
          rw [hu] at gB
          refine ⟨Dt, _, rfl, gB, ?_⟩
          walk_at "go"
          exact hQ _ _ sB (by rw [fa, sn, List.map_append] <;> rfl)
      walk_at "go"
      refine ⟨s5 _ _ upd_same, ?_⟩
      have s34 := same_lock e3 s5
      have nL4 : L4 ≠ D := fun z => by
        rw [z, upd_same] at hL4
        cases hL4
      have ee4 : upd H5 D (.dK (kvsF (eS :: N.take j) f)) L4 = some (.lst acc) := by
        rw [upd_ne nL4]
        exact e5
      have e4 : upd H5 D (.dK (kvsF (eS :: N.take j) f)) D = some (.dK (kvsF (eS :: N.take j) f)) := upd_same
      have dt4 := dt3.same s34
      rw [kvsF_len, List.take_length] at fa
      rw [fa] at ee4
      generalize upd H5 D (.dK (kvsF (eS :: N.take j) f)) = H4 at s34 ee4 e4 dt4
      clear fa e5 s5
      refine rd_seq ⟨D, _, e4, trivial, fun od => rd_asg (rd_lcK rfl upd_same ?_)⟩
      refine lcW (n := (kvsF (eS :: N.take j) f).length) walk_keys (fun i acc _ => acc = (highsF T t f ((eS :: N.take j).take i)).map V.int) (fun _ _ _ _ _ h => h) rfl (by rw [kvsF_len]; have := ks5; omega) (fun H1 s => s _ _ upd_same) (fun i x acc H5 H5' hi s5 fa _ hY Qy Qn hQ hN => ?_) fun L6 H5 acc hL6 s5 e5 fa _ => ?_
      · obtain ⟨rfl, k, v, hk, rfl⟩ := hY
        obtain ⟨m, hm, mK, rfl, rfl⟩ := kvsF_at hk
        have sn := highsF_snoc (T := T) (t := t) (f := f) hm
        have dt5 : DT H5' Dt T c := (dt4.updn nDt).same s5
        have ed5 := s5 _ _ upd_same
        show gName 6 (.str m) _ _ _
        walk_at "go"
        refine ⟨szc rfl, fun q1 hq1 => ?_⟩
        have sA : Same H5' (upd H5' q1 (.tup [.str t, .str m])) := same_new hq1
        have eA : upd H5' q1 (.tup [.str t, .str m]) q1 = some (.tup [.str t, .str m]) := upd_same
        generalize upd H5' q1 (.tup [.str t, .str m]) = HA at sA eA
        walk_at "go"
        refine ⟨Dt, _, rfl, (dt5.same sA).get eA, ?_⟩
        cases hu : T t m with
        | none =>
          rw [hu] at sn
          walk_at "go"
          exact hN _ sA (by rw [fa, sn]; exact (congrArg (List.map V.int) (List.append_nil _)).symm)
        | some u =>
          rw [hu] at sn
          walk_at "go"
          refine ⟨D, _, rfl, DGet.fk (sA _ _ ed5) mK, ?_⟩
          walk_at "go"
          refine ⟨szc rfl, fun q2 hq2 => ?_⟩
          have sB : Same H5' (upd HA q2 (.tup [.str t, .str m])) := same_new2 sA hq2
          have eB : upd HA q2 (.tup [.str t, .str m]) q2 = some (.tup [.str t, .str m]) := upd_same
          generalize upd HA q2 (.tup [.str t, .str m]) = HB at sB eB
          have gB := (dt5.same sB).get eB
          rw [hu] at gB
          refine ⟨Dt, _, rfl, gB, ?_⟩
          walk_at "go"
          exact hQ _ _ sB (by rw [fa, sn, List.map_append] <;> rfl)
      walk_at "go"
      refine ⟨s5 _ _ upd_same, ?_⟩
      have s36 := same_lock e4 s5
      have nL6 : L6 ≠ D := fun z => by
        rw [z, upd_same] at hL6
        cases hL6
      have ee6 : upd H5 D (.dK (kvsF (eS :: N.take j) f)) L6 = some (.lst acc) := by
        rw [upd_ne nL6]
        exact e5
      have e6 : upd H5 D (.dK (kvsF (eS :: N.take j) f)) D = some (.dK (kvsF (eS :: N.take j) f)) := upd_same
      have dt6 := dt4.same s36
      rw [kvsF_len, List.take_length] at fa
      rw [fa] at ee6
      generalize upd H5 D (.dK (kvsF (eS :: N.take j) f)) = H6 at s36 ee6 e6 dt6
      clear fa e5 s5
      have k6 : FK F H H6 := k3.same (s34.trans s36)
      have el4 : H6 L4 = _ := s36 _ _ ee4
      have L4F : L4 ≠ F := (k3.mutN fl hD).fl.ne_new hL4
      have L6F : L6 ≠ F := ((k3.same s34).mutN fl hD).fl.ne_new hL6
      have jn : (j : Int) ≤ 4 := by omega
      have eSN : ∀ k ∈ eS :: N.take j, k ∈ eS :: N := fun k hk => (List.mem_cons.mp hk).elim (fun z => z ▸ List.mem_cons_self) fun z => List.mem_cons_of_mem _ (List.mem_of_mem_take z)
      have bK : ∀ k ∈ eS :: N.take j, -65000 * (j : Int) ≤ f k ∧ f k ≤ 65000 * (j : Int) := fun k hk => by
        rcases List.mem_cons.mp hk with z | z
        · rw [z, f0]
          omega
        · exact bf k z
      have bL : ∀ x ∈ lowsF T t f (eS :: N.take j), -(65000 * (j : Int) + 64000) ≤ x ∧ x ≤ 65000 * (j : Int) + 64000 := fun x hx => by
        obtain ⟨m, hm, w, e, rfl⟩ := lowsF_mem.mp hx
        have := bK m hm
        have := ok.bd _ _ _ e
        omega
      have bU : ∀ x ∈ highsF T t f (eS :: N.take j), -(65000 * (j : Int) + 64000) ≤ x ∧ x ≤ 65000 * (j : Int) + 64000 := fun x hx => by
        obtain ⟨m, hm, w, e, rfl⟩ := highsF_mem.mp hx
        have := bK m hm
        have := ok.bd _ _ _ e
        omega
      have room : ∀ x ∈ lowsF T t f (eS :: N.take j), ∀ y ∈ highsF T t f (eS :: N.take j), x ≤ y := fun x hx y hy => by
        obtain ⟨m, hm, u, e, rfl⟩ := lowsF_mem.mp hx
        obtain ⟨m', hm', v, e', rfl⟩ := highsF_mem.mp hy
        exact Con.room ok cf eSN (List.mem_cons_of_mem _ htm) hm hm' e e'
      have tnew : t ∉ eS :: N.take j := fun h => by
        rcases List.mem_cons.mp h with z | z
        · exact absurd z (fo.ne t htm)
        · exact absurd z (not_takeF fo.nd ht)
      have lln := lowsF_len (T := T) (t := t) (f := f) (Ks := eS :: N.take j)
      have hln := highsF_len (T := T) (t := t) (f := f) (Ks := eS :: N.take j)
      generalize eL : lowsF T t f (eS :: N.take j) = L at *
      generalize eU : highsF T t f (eS :: N.take j) = U at *
      refine seq_cut2 (fun σ H7 => ∃ low high : Int, ∃ x6 x10 x11, σ = [some (.ref F), some (.ref p), some (.ref Dt), some (.ref D), some (.str t), some (.ref L4), x6, some (.ref L6), some (.int low), some (.int high), x10, x11] ∧ Same H6 H7 ∧ low ≤ high ∧ (L ≠ [] → -(65000 * (j : Int) + 64000) ≤ low ∧ low ≤ 65000 * (j : Int) + 64000) ∧ (U ≠ [] → -(65000 * (j : Int) + 64000) ≤ high ∧ high ≤ 65000 * (j : Int) + 64000) ∧ (L = [] → U = [] → low = -6 ∧ high = 6) ∧ -1000000 ≤ low ∧ high ≤ 1000000 ∧ (∀ x ∈ L, x ≤ low) ∧ (∀ x ∈ U, high ≤ x)) (fun Nx hN => ?_) fun σ H7 ⟨low, high, x6', x10', x11', eσ, s7, lh, oL, oU, em, lm, hm, okL, okU⟩ => ?_
      · walk_at "go"
        rw [show (-10 ^ Int.toNat 6 : Int) = -1000000 from by decide]
        refine ⟨szc rfl, fun a1 ha1 => ?_⟩
        have sA : Same H6 (upd H6 a1 (.lst [.int (-1000000)])) := same_new ha1
        have eA : upd H6 a1 (.lst [.int (-1000000)]) a1 = some (.lst [.int (-1000000)]) := upd_same
        generalize upd H6 a1 (.lst [.int (-1000000)]) = HA at sA eA
        refine rd_catL (sA _ _ el4) eA (sz (by rw [List.length_map, List.length_singleton]; omega)) fun a2 ha2 => ?_
        have sB : Same H6 (upd HA a2 (.lst (L.map V.int ++ [.int (-1000000)]))) := same_new2 sA ha2
        have eB : upd HA a2 (.lst (L.map V.int ++ [.int (-1000000)])) a2 = some (.lst ((L ++ [-1000000]).map V.int)) := by
          rw [upd_same, List.map_append] <;> rfl
        generalize upd HA a2 (.lst (L.map V.int ++ [.int (-1000000)])) = HB at sB eB
        walk_at "go"
        refine ⟨a2, L ++ [-1000000], rfl, .inl (.inl eB), by rw [List.length_append, List.length_singleton]; omega, fun low l1 l2 => ?_⟩
        walk_at "go"
        rw [show (10 ^ Int.toNat 6 : Int) = 1000000 from by decide]
        refine ⟨szc rfl, fun a3 ha3 => ?_⟩
        have sC : Same H6 (upd HB a3 (.lst [.int 1000000])) := same_new2 sB ha3
        have eC : upd HB a3 (.lst [.int 1000000]) a3 = some (.lst [.int 1000000]) := upd_same
        generalize upd HB a3 (.lst [.int 1000000]) = HC at sC eC
        refine rd_catL (sC _ _ ee6) eC (sz (by rw [List.length_map, List.length_singleton]; omega)) fun a4 ha4 => ?_
        have sE : Same H6 (upd HC a4 (.lst (U.map V.int ++ [.int 1000000]))) := same_new2 sC ha4
        have eE : upd HC a4 (.lst (U.map V.int ++ [.int 1000000])) a4 = some (.lst ((U ++ [1000000]).map V.int)) := by
          rw [upd_same, List.map_append] <;> rfl
        generalize upd HC a4 (.lst (U.map V.int ++ [.int 1000000])) = HE at sE eE
        walk_at "go"
        refine ⟨a4, U ++ [1000000], rfl, .inl (.inl eE), by rw [List.length_append, List.length_singleton]; omega, fun high h1 h2 => ?_⟩
        obtain ⟨lh, oL, oU, okL, okU⟩ := pick_ok (C := 65000 * (j : Int) + 64000) (by omega) (by omega) bL bU room l1 l2 h1 h2
        have lm : -1000000 ≤ low := l2 _ (List.mem_append.mpr (.inr (List.mem_singleton_self _)))
        have hm : high ≤ 1000000 := h2 _ (List.mem_append.mpr (.inr (List.mem_singleton_self _)))
        walk_at "go"
        refine ⟨szc rfl, fun a5 ha5 => ?_⟩
        have sF : Same H6 (upd HE a5 (.lst [])) := same_new2 sE ha5
        have eF : upd HE a5 (.lst []) a5 = some (.lst []) := upd_same
        generalize upd HE a5 (.lst []) = HF at sF eF
        refine ⟨.list (L.map PyData.int), .list [], dp_lst (sF _ _ el4) ints_da, dp_lst eF .nil, shaped_lints, rfl, ?_⟩
        rw [eqv_lnil]
        cases hL : L.isEmpty with
        | false =>
          have Ln : L ≠ [] := fun z => by rw [z] at hL; cases hL
          walk_at "go"
          exact hN _ _ ⟨low, high, _, _, _, rfl, sF, lh, oL, oU, fun z => absurd z Ln, lm, hm, okL, okU⟩
        | true =>
          have Ln : L = [] := List.isEmpty_iff.mp hL
          walk_at "go"
          refine ⟨szc rfl, fun a6 ha6 => ?_⟩
          have sG : Same H6 (upd HF a6 (.lst [])) := same_new2 sF ha6
          have eG : upd HF a6 (.lst []) a6 = some (.lst []) := upd_same
          generalize upd HF a6 (.lst []) = HG at sG eG
          refine ⟨.list (U.map PyData.int), .list [], dp_lst (sG _ _ ee6) ints_da, dp_lst eG .nil, shaped_lints, rfl, ?_⟩
          rw [eqv_lnil]
          cases hU : U.isEmpty with
          | false =>
            have Un : U ≠ [] := fun z => by rw [z] at hU; cases hU
            walk_at "go"
            exact hN _ _ ⟨low, high, _, _, _, rfl, sG, lh, oL, oU, fun _ z => absurd z Un, lm, hm, okL, okU⟩
          | true =>
            have Un : U = [] := List.isEmpty_iff.mp hU
            walk_at "go"
            refine ⟨szc rfl, fun a7 ha7 => ?_⟩
            have sI : Same H6 (upd HG a7 (.tup [.int (-6), .int 6])) := same_new2 sG ha7
            have eI : upd HG a7 (.tup [.int (-6), .int 6]) a7 = some (.tup [.int (-6), .int 6]) := upd_same
            generalize upd HG a7 (.tup [.int (-6), .int 6]) = HI at sI eI
            walk_at "go"
            exact hN _ _ ⟨-6, 6, _, _, _, rfl, sI, by decide, fun z => absurd Ln z, fun z => absurd Un z, fun _ _ => ⟨rfl, rfl⟩, by decide, by decide, fun x hx => (by rw [Ln] at hx; cases hx), fun x hx => (by rw [Un] at hx; cases hx)⟩
      · subst eσ
        have k7 := k6.same s7
        walk_at "go"
        refine ⟨F, 2, rfl, by decide, by decide, k7.fl, fun H8 d k78 d0 d2 => ?_⟩
        have k8 := k7.trans k78
        walk_at "go"
        refine ⟨szc rfl, fun pl hpl => ?_⟩
        refine ⟨F, pl, _, rfl, (k8.same (same_new hpl)).fl, .inl ⟨upd_same, k8.fl.ne_new hpl⟩, (by intro z; cases z), by decide, fun H9 v k89 hv => ?_⟩
        have k9 := (k78.same (same_new hpl)).trans k89
        obtain ⟨k, rfl, hk1, hk2⟩ : ∃ k : Int, v = .int k ∧ 3 ≤ k ∧ k ≤ 300 := by
          rcases List.mem_cons.mp hv with z | hv
          · exact ⟨3, z, by decide, by decide⟩
          rcases List.mem_cons.mp hv with z | hv
          · exact ⟨8, z, by decide, by decide⟩
          · exact ⟨300, List.mem_singleton.mp hv, by decide, by decide⟩
        walk_at "go"
        show sp_drop [.ref F, .int (if high - low + 1 < k then high - low + 1 else k)] H9 _ _
        generalize eM : (if high - low + 1 < k then high - low + 1 else k) = M
        have hM : 0 < M ∧ M ≤ 300 ∧ M ≤ high - low + 1 := by
          rw [← eM]
          split <;> omega
        walk_at "go"
        refine ⟨F, M, rfl, hM.1, by omega, k9.fl, fun H10 st k910 s0 s1 => ?_⟩
        have k710 := k9.trans k910
        walk_at "go"
        have nDF2 : D ≠ F := fl.ne_new hD
        have k10 : FK F H H10 := k7.trans k710
        have eL10 : H10 L4 = _ := k710.kp _ _ (s7 _ _ el4) L4F
        have eU10 : H10 L6 = _ := k710.kp _ _ (s7 _ _ ee6) L6F
        have eD10 : H10 D = _ := k710.kp _ _ (s7 _ _ e6) nDF2
        have tk : eS :: N.take (j + 1) = (eS :: N.take j) ++ [t] := by
          rw [List.take_add_one, ht] <;> rfl
        have done : ∀ (v : Int) (H11 : Hp), Same H10 H11 → (∀ x ∈ L, x ≤ v) → (∀ x ∈ U, v ≤ x) → (-(65000 * (j : Int) + 65000) ≤ v ∧ v ≤ 65000 * (j : Int) + 65000) → ∃ H4, DPut H11 D (.str t) (.int v) H4 ∧ FK F H H4 ∧ H4 D = some (.dK (kvsF (eS :: N.take (j + 1)) (setF f t v))) ∧ setF f t v eS = 0 ∧ Con T (eS :: N.take (j + 1)) (setF f t v) ∧ ∀ x ∈ N.take (j + 1), -65000 * ((j + 1 : Nat) : Int) ≤ setF f t v x ∧ setF f t v x ≤ 65000 * ((j + 1 : Nat) : Int) := by
          intro v H11 s11 v1 v2 v3
          have eD := s11 _ _ eD10
          have kp := kvsF_put (f := f) (v := v) tnew
          rw [← tk] at kp
          refine ⟨_, DPut.k (k := .inr t) eD (Nat.lt_of_le_of_lt (by rw [kvsF_len]; exact ks5) (by decide)), (k10.same s11).mutN fl hD, by rw [upd_same, kp], ?_, ?_, fun x hx => ?_⟩
          · rw [setF_ne (fun (z : eS = t) => tnew (by rw [← z]; exact List.mem_cons_self)), f0]
          · rw [tk]
            refine Con.snoc ok cf (List.mem_cons_of_mem _ htm) tnew (fun m hm w e => v1 _ ?_) fun m hm w e => v2 _ ?_
            · rw [← eL]
              exact lowsF_mem.mpr ⟨m, hm, w, e, rfl⟩
            · rw [← eU]
              exact highsF_mem.mpr ⟨m, hm, w, e, rfl⟩
          · by_cases z : x = t
            · rw [z, setF_at]
              omega
            · rw [setF_ne z]
              have hx2 : x ∈ N.take j := by
                have : x ∈ eS :: N.take (j + 1) := List.mem_cons_of_mem _ hx
                rw [tk] at this
                rcases List.mem_append.mp this with h | h
                · rcases List.mem_cons.mp h with h | h
                  · exact absurd h (fo.ne x (List.mem_of_mem_take hx))
                  · exact h
                · exact absurd (List.mem_singleton.mp h) z
              have := bf x hx2
              omega
        have up : ∀ Ln : L ≠ [], (∀ x ∈ L, x ≤ low + st) ∧ (∀ x ∈ U, low + st ≤ x) ∧ -(65000 * (j : Int) + 65000) ≤ low + st ∧ low + st ≤ 65000 * (j : Int) + 65000 := fun Ln => by
          have := oL Ln
          refine ⟨fun x hx => ?_, fun x hx => ?_, by omega, by omega⟩
          · have := okL x hx
            omega
          · have := okU x hx
            omega
        have dn : (U ≠ [] ∨ L = []) → (∀ x ∈ L, x ≤ high - st) ∧ (∀ x ∈ U, high - st ≤ x) ∧ -(65000 * (j : Int) + 65000) ≤ high - st ∧ high - st ≤ 65000 * (j : Int) + 65000 := fun hh => by
          refine ⟨fun x hx => ?_, fun x hx => ?_, ?_⟩
          · have := okL x hx
            omega
          · have := okU x hx
            omega
          · by_cases Un : U = []
            · have := em (hh.elim (fun z => absurd Un z) id) Un
              omega
            · have := oU Un
              omega
        refine ⟨szc rfl, fun a5 ha5 => ?_⟩
        have sF : Same H10 (upd H10 a5 (.lst [])) := same_new ha5
        have eF : upd H10 a5 (.lst []) a5 = some (.lst []) := upd_same
        generalize upd H10 a5 (.lst []) = HF at sF eF
        refine ⟨.list (L.map PyData.int), .list [], dp_lst (sF _ _ eL10) ints_da, dp_lst eF .nil, shaped_lints, rfl, ?_⟩
        rw [eqv_lnil]
        cases hL : L.isEmpty with
        | true =>
          have Ln : L = [] := List.isEmpty_iff.mp hL
          walk_at "go"
          obtain ⟨v1, v2, v3⟩ := dn (.inr Ln)
          obtain ⟨H4, b1, b2, b3, b4, b5, b6⟩ := done _ _ sF v1 v2 v3
          exact ⟨D, H4, rfl, b1, _, _, _, _, _, _, _, _, _, rfl, b2, b3, b4, b5, b6⟩
        | false =>
          have Ln : L ≠ [] := fun z => by rw [z] at hL; cases hL
          obtain ⟨v1, v2, v3⟩ := up Ln
          walk_at "go"
          refine ifb (fun h0 => ?_) fun h0 => ?_
          · walk_at "go"
            obtain ⟨H4, b1, b2, b3, b4, b5, b6⟩ := done _ _ sF v1 v2 v3
            exact ⟨D, H4, rfl, b1, _, _, _, _, _, _, _, _, _, rfl, b2, b3, b4, b5, b6⟩
          · walk_at "go"
            refine ⟨szc rfl, fun a6 ha6 => ?_⟩
            have sG : Same H10 (upd HF a6 (.lst [])) := same_new2 sF ha6
            have eG : upd HF a6 (.lst []) a6 = some (.lst []) := upd_same
            generalize upd HF a6 (.lst []) = HG at sG eG
            refine ⟨.list (U.map PyData.int), .list [], dp_lst (sG _ _ eU10) ints_da, dp_lst eG .nil, shaped_lints, rfl, ?_⟩
            rw [eqv_lnil]
            cases hU : U.isEmpty with
            | true =>
              walk_at "go"
              obtain ⟨H4, b1, b2, b3, b4, b5, b6⟩ := done _ _ sG v1 v2 v3
              exact ⟨D, H4, rfl, b1, _, _, _, _, _, _, _, _, _, rfl, b2, b3, b4, b5, b6⟩
            | false =>
              have Un : U ≠ [] := fun z => by rw [z] at hU; cases hU
              walk_at "go"
              obtain ⟨v1, v2, v3⟩ := dn (.inl Un)
              obtain ⟨H4, b1, b2, b3, b4, b5, b6⟩ := done _ _ sG v1 v2 v3
              exact ⟨D, H4, rfl, b1, _, _, _, _, _, _, _, _, _, rfl, b2, b3, b4, b5, b6⟩
    · subst eσ
      have t1 := k3.tup fl g1
      have t2 := k3.tup fl g2
      rw [List.take_length] at e3 cf bf
      walk_at "go"
      refine lcM (n := N.length) (G := fun H => SqT K H pf (N.map V.str)) (Y := YAt (N.map V.str)) (List.length_map (as := N) V.str ▸ walk_tup) ((N.map f).map V.int) (by rw [List.length_map, List.length_map]) (by omega) (fun H1 s => .inl (.inl (s _ _ t2))) (fun j x H1 H1' y hj s hY hy Qy Qn hQ => ?_) fun L H1 hL s e => ?_
      · obtain ⟨rfl, hx⟩ := hY
        obtain ⟨t, rfl, ht, htm⟩ := get_names hx
        have ey : y = .int (f t) := by
          rw [List.getElem?_map, List.getElem?_map, ht] at hy
          exact (Option.some.inj hy).symm
        subst ey
        walk_at "go"
        refine ⟨D, _, rfl, .inl ⟨_, .inr t, .inl (s _ _ e3), rfl, (kvsF_val (List.mem_cons_of_mem _ htm)).symm⟩, ?_⟩
        walk_at "go"
        exact hQ _ (Same.refl _)
      · walk_at "go"
        intro q5 hq5
        have s5 := Same.trans s (same_new (o := .tup ((N.map f).map V.int)) hq5)
        exact q _ q5 f (k3.same s5) upd_same f0 cf fun x hx => by
          have := bf x hx
          omega
end
end K59
/-! K59L14 -/
set_option Elab.async false
set_option linter.all false
set_option maxRecDepth 100000
set_option maxHeartbeats 4000000
namespace K59
open PySem PySem.W PySem.Calls PySem.Spec PyProof.Rows L2
local macro_rules | `(tactic| walk_at "hp") => `(tactic| first
  | assumption
  | exact upd_same
  | (refine same_new (by assumption) _ _ ?_; walk_at "hp")
  | (refine (by assumption : Same _ _) _ _ ?_; walk_at "hp")
  | (refine FK.tk (by assumption) (by assumption) _ _ ?_; walk_at "hp"))
local macro_rules | `(tactic| walk_at "sq") => `(tactic| first
  | assumption
  | exact FrzT.sq (by assumption)
  | (refine sqt_new (by assumption) ?_; walk_at "sq")
  | (refine sqt_same ?_ (by assumption); walk_at "sq"))
local macro_rules | `(tactic| walk_at "fz") => `(tactic| first
  | assumption
  | (refine frz_new (by assumption) ?_; walk_at "fz")
  | (refine FrzT.same ?_ (by assumption); walk_at "fz"))
local macro_rules | `(tactic| walk_at "ic") => `(tactic| first
  | ((with_reducible show (0 : Int) < _); decide)
  | exact Or.inl ⟨by decide, by decide⟩
  | exact Or.inr ⟨by decide, by decide⟩
  | exact (show (0 : Int) < _ ∧ _ < (1073741824 : Int) from ⟨by decide, by decide⟩)
  | exact (show (0 : Int) ≤ _ ∧ _ ≤ (1000000 : Int) ∧ Int.natAbs _ < 2 ^ 64 from ⟨by decide, by decide, by decide⟩)
  | exact (⟨by decide, by decide, by decide⟩ : _ ∧ _ ∧ _))
local macro_rules | `(tactic| walk_at "st") => `(tactic| first
  | with_reducible refine rd_var rfl ?_
  | with_reducible refine rd_c ?_
  | with_reducible refine rd_cons ?_
  | with_reducible refine rd_nil ?_
  | with_reducible refine rd_op ?_
  | with_reducible refine rd_cb ?_
  | with_reducible refine rd_call ?_
  | with_reducible refine rd_test ?_
  | with_reducible refine rd_B ?_
  | with_reducible refine rd_bl ?_
  | with_reducible refine rd_un ?_
  | with_reducible refine rd_and ?_
  | with_reducible refine rd_or ?_
  | with_reducible refine rd_not ?_
  | with_reducible refine rd_andV ?_
  | with_reducible refine rd_orV ?_
  | with_reducible refine rd_notV ?_
  | with_reducible refine rd_if ?_
  | with_reducible refine rd_chain ?_
  | with_reducible refine rd_I0 ?_
  | with_reducible refine rd_U ?_
  | with_reducible refine rd_eqI ?_
  | with_reducible refine rd_neI ?_
  | with_reducible refine rd_eqS ?_
  | with_reducible refine rd_neS ?_
  | with_reducible refine rd_nn ?_
  | with_reducible refine rd_asg ?_
  | with_reducible refine rd_gname ?_
  | with_reducible refine rd_seq ?_
  | with_reducible refine rd_ifS ?_
  | with_reducible refine rd_ret ?_
  | with_reducible refine rd_next ?_
  | with_reducible refine rd_cont ?_
  | with_reducible refine rd_drop ?_
  | with_reducible refine rd_par ?_
  | with_reducible refine rd_vs2 ?_
  | with_reducible refine rd_gsub ?_
  | with_reducible refine rd_gcons ?_
  | with_reducible refine rd_gnil ?_
  | with_reducible refine rd_tup ?_
  | with_reducible refine rd_lst ?_
  | with_reducible refine rd_sl ?_
  | with_reducible refine rd_part ?_
  | with_reducible refine rd_nopart ?_
  | with_reducible refine rd_i1 ?_
  | with_reducible refine rd_bm ?_
  | with_reducible refine rd_yes ?_
  | with_reducible refine rd_lcT ?_
  | with_reducible refine rd_lcL ?_
  | with_reducible refine rd_lcR1 ?_
  | with_reducible refine rd_lcS ?_
  | with_reducible refine rd_forT ?_
  | with_reducible refine rd_forL ?_
  | with_reducible refine rd_forR1 ?_
  | with_reducible refine rd_atS ?_
  | with_reducible refine rd_forEn ?_
  | with_reducible refine rd_dget ?_
  | with_reducible refine rd_din ?_
  | with_reducible refine rd_dget2 ?_
  | with_reducible refine rd_dput ?_
  | with_reducible refine rd_disp ?_
  | with_reducible refine rd_pcons ?_
  | with_reducible refine rd_pnil ?_
  | with_reducible refine rd_dcL ?_
  | with_reducible refine rd_lcEn ?_
  | with_reducible refine rd_yS ?_
  | with_reducible refine rd_m1 ?_
  | with_reducible refine rd_meth ?_
  | with_reducible refine rd_fld ?_
  | with_reducible refine rd_sfld ?_
  | with_reducible refine rd_make ?_
  | with_reducible refine rd_fmt ?_
  | with_reducible refine rd_js ?_
  | with_reducible refine rd_js0 ?_
  | with_reducible refine iteT ?_
  | with_reducible refine iteF ?_
  | ((with_reducible refine isi_int (d := ?d1) (N := ?n1) ?h1 ?_); (case h1 => assumption))
  | ((with_reducible refine isi_bool (d := ?d1) (N := ?n1) ?h1 ?_); (case h1 => assumption))
  | ((with_reducible refine isi_str (d := ?d1) (N := ?n1) ?h1 ?_); (case h1 => assumption))
  | ((with_reducible refine isi_tuple (d := ?d1) (N := ?n1) ?h1 ?_); (case h1 => assumption))
  | with_reducible refine isi_str (N := fun _ => True) (Da.str _) ?_
  | with_reducible refine isi_int (N := fun _ => True) (Da.int _) ?_
  | with_reducible refine isi_bool (N := fun _ => True) (Da.int _) ?_
  | with_reducible refine isi_str (N := fun _ => True) (Da.int _) ?_
  | ((with_reducible show (wipe _ _ = wipe _ _) ∧ _); refine ⟨rfl, ?_⟩)
  | ((with_reducible show Ends.nx _ _ _); dsimp only)
  | ((with_reducible show Ends.rt _ _ _); dsimp only)
  | ((with_reducible show Ends.ct _ _ _); dsimp only)
  | ((with_reducible refine rd_ixT (xs := ?x1) (v := ?v1) ?h1 ?e1 ?_); (case h1 => walk_at "hp"); (case e1 => rfl))
  | ((with_reducible refine rd_ixL (xs := ?x1) (v := ?v1) ?h1 ?e1 ?_); (case h1 => walk_at "hp"); (case e1 => rfl))
  | ((with_reducible refine rd_lenT (xs := ?x1) ?h1 ?_); (case h1 => walk_at "hp"))
  | ((with_reducible refine rd_lenL (xs := ?x1) ?h1 ?_); (case h1 => walk_at "hp"))
  | ((with_reducible refine rd_tupOf (xs := ?x1) ?h1 ?_); (case h1 => walk_at "hp"))
  | ((with_reducible refine rd_all (bs := ?x1) ?h1 ?_); (case h1 => walk_at "hp"))
  | ((with_reducible refine rd_atT (xs := ?x1) ?h1 ?_); (case h1 => walk_at "hp"))
  | ((with_reducible refine rd_atL (xs := ?x1) ?h1 ?_); (case h1 => walk_at "hp"))
  | ((with_reducible refine rd_gtup (xs := ?x1) ?h1 ?e1 ?_); (case h1 => walk_at "hp"); (case e1 => rfl))
  | ((with_reducible refine rd_atEn (xs := ?x1) ?h1 ?_); (case h1 => walk_at "hp"))
  | ((with_reducible refine rd_slT (xs := ?x1) ?h1 ?_); (case h1 => walk_at "hp"))
  | ((with_reducible refine rd_slL (xs := ?x1) ?h1 ?_); (case h1 => walk_at "hp"))
  | ((with_reducible refine rd_inN (N := ?x1) ?h1 ?_); (case h1 => walk_at "hp"))
  | ((with_reducible refine rd_inL (N := ?x1) ?h1 ?_); (case h1 => walk_at "hp"))
  | ((with_reducible refine rd_notInN (N := ?x1) ?h1 ?_); (case h1 => walk_at "hp"))
  | ((with_reducible refine rd_notInL (N := ?x1) ?h1 ?_); (case h1 => walk_at "hp"))
  | with_reducible refine rd_tm ?_
  | ((with_reducible refine rd_isF (xs := ?x1) ?h1 ?_); (case h1 => walk_at "fz"))
  | ((with_reducible refine rd_lenTq (xs := ?x1) ?h1 ?_); (case h1 => walk_at "sq"))
  | ((with_reducible refine rd_atTq (xs := ?x1) ?h1 ?_); (case h1 => walk_at "sq"))
  | ((with_reducible refine rd_atEnq (xs := ?x1) ?h1 ?_); (case h1 => walk_at "sq"))
  | ((with_reducible refine rd_slTq (xs := ?x1) ?h1 ?_); (case h1 => walk_at "sq"))
  | ((with_reducible refine rd_inNq (N := ?x1) ?h1 ?_); (case h1 => walk_at "sq"))
  | ((with_reducible refine rd_setL (xs := ?x1) (j := ?j1) ?h1 ?e1 ?_); (case h1 => walk_at "hp"); (case e1 => rfl))
  | with_reducible refine rd_int1 ?_
  | with_reducible refine rd_x1 ?_
  | with_reducible refine rd_x2 ?_
  | ((with_reducible refine rd_tyL (xs := ?x1) ?h1 ?_); (case h1 => walk_at "hp"))
  | ((with_reducible refine rd_ixsL (xs := ?x1) (v := ?v1) ?h1 ?e1 ?_); (case h1 => walk_at "hp"); (case e1 => rfl))
  | ((with_reducible refine rd_ixsT (xs := ?x1) (v := ?v1) ?h1 ?e1 ?_); (case h1 => walk_at "hp"); (case e1 => rfl))
  | ((with_reducible refine rd_I ?c1 ?_); (case c1 => walk_at "ic"))
  | ((with_reducible refine if_t ?hb1 ?_); (case hb1 => rfl))
  | ((with_reducible refine if_f ?hb1 ?_); (case hb1 => rfl)))
local macro_rules | `(tactic| walk_at "go") => `(tactic| repeat (first | walk_at "st" | dsimp only))
section
variable {P : Program} {w : World} {K : Frag} {mg : Str → Option Value} {base : Heap}

/-- a step: a tag and a number -/
def StAt (H : Hp) (a : Addr) (t : Str) (n : Int) : Prop := H a = some (.tup [.str t, .int n])
def StsAt (H : Hp) (as : List Addr) (ss : List (Str × Int)) : Prop := Paired (fun a (s : Str × Int) => StAt H a s.1 s.2) as ss
theorem withL_mem {N : List Str} {ns : List Int} {t : Str} {x y : Int} (h : y ∈ withL N ns t x) : y = x ∨ y ∈ ns := by
  obtain ⟨i, hi, e⟩ := List.mem_map.mp h
  have hi := List.mem_range.mp hi
  by_cases z : N[i]? = some t
  · rw [if_pos z] at e
    exact .inl e.symm
  · rw [if_neg z, List.getElem?_eq_getElem hi] at e
    exact .inr (e ▸ List.getElem_mem hi)
theorem paired_app {α β : Type} {F : α → β → Prop} : ∀ {xs : List α} {ys : List β} {us : List α} {vs : List β}, Paired F xs ys → Paired F us vs → Paired F (xs ++ us) (ys ++ vs)
  | _, _, _, _, .nil, h => h
  | _, _, _, _, .cons r t, h => .cons r (paired_app t h)
theorem StsAt.tk {H H' : Hp} {as : List Addr} {ss : List (Str × Int)} (h : StsAt H as ss) (k : TK H H') : StsAt H' as ss := Paired.mapP h fun _ _ e => k _ _ e
abbrev N_L_some_steps : List Str := ["_law_flask_here", "_law_shape_here", "_law_fill", "_law_many", "_law_found", "_law_turn", "_law_at", "_law_number", "_law_later"]
theorem sc_L_some_steps : FnScope N_L_some_steps ["_law_flask_here", "_law_shape_here", "_law_fill", "_law_many"] (defScope s_L_some_steps) := ⟨rfl, rfl, rfl, by decide +kernel, rfl, by decide +kernel, by decide +kernel⟩
def sp_steps : Sp := fun vs H Q _ => ∃ F p q, ∃ N : List Str, ∃ R, ∃ ns : List Int, vs = [.ref F, .ref p, .ref q, .int 6] ∧ Fl H F ∧ ShapeAt H p N R ∧ FormOk N R ∧ H q = some (.tup (ns.map V.int)) ∧ ns.length = N.length ∧ (∀ x ∈ ns, -400000 ≤ x ∧ x ≤ 400000) ∧ ∀ H' r as ss, FK F H H' → H' r = some (.tup (as.map V.ref)) → StsAt H' as ss → as.length ≤ 6 → (∀ s ∈ ss, s.1 ∈ N ∧ -500000 ≤ s.2 ∧ s.2 ≤ 500000) → Q (.ref r) H'
theorem c_L_some_steps (S : Sys K mg) : C8.Cal P w K mg base 5 "_law_some_steps" sp_steps [] := by
  refine calD S.f_D_L_some_steps S.g_L_some_steps sc_L_some_steps (fun _ _ _ _ _ _ us hl => match us, hl with | [_, _, _, _], _ => rfl) ?_ ?_
  · rintro vs H Q E ⟨_, _, _, _, _, _, rfl, _⟩
    rfl
  · rintro cdv A outer s H vs Q E hr ⟨F, p, q, N, R, ns, rfl, fl, sh, fo, eq, nl, bn, qq⟩
    refine ⟨_, pss_cons (ps_set (i := 4) sc_L_some_steps.nd rfl (Or.inl rfl) (pe_tup pa_nil))
      (pss_cons (ps_for PassesOwn.never rfl (pi_range1 (by rfl) S.n_range (pa_cons (pv 3) pa_nil)) (pg_name (i := 5) sc_L_some_steps.nd rfl (Or.inl rfl))
        (pss_cons (ps_set (i := 6) sc_L_some_steps.nd rfl (Or.inl rfl) (C8.pe_c (c_L_drop (K := K) S) hr (by decide) rfl (pa_cons (pv 0) (pa_cons (pe_callB (call_len_seqC (K := K) rfl) (by rfl) S.n_len (by decide +kernel) (pa_cons (pv 2) pa_nil)) pa_nil))))
      (pss_cons (ps_set (i := 7) sc_L_some_steps.nd rfl (Or.inl rfl) (pe_op op_add (pe_ix (ix_tupC (K := K) rfl) (pv 2) (pv 6) (fun _ _ => rfl)) (C8.pe_c (c_L_of (K := K) S) hr (by decide) rfl (pa_cons (pv 0) (pa_cons (pe_lst (pa_cons pe_int (pa_cons (pe_un un_neg pe_int) (pa_cons pe_int (pa_cons (pe_un un_neg pe_int) (pa_cons pe_int (pa_cons (pe_un un_neg pe_int) (pa_cons (pe_op op_sub (C8.pe_c (c_L_drop (K := K) S) hr (by decide) rfl (pa_cons (pv 0) (pa_cons pe_int pa_nil))) pe_int) pa_nil)))))))) pa_nil)))))
      (pss_cons (ps_set (i := 8) sc_L_some_steps.nd rfl (Or.inl rfl) (C8.pe_c (c_L_with (K := K) S) hr (by decide) rfl (pa_cons (pv 1) (pa_cons (pv 2) (pa_cons (pe_ix (ix_tupC (K := K) rfl) (pe_ix (ix_tupC (K := K) rfl) (pv 1) pe_int (fun _ _ => rfl)) (pv 6) (fun _ _ => rfl)) (pa_cons (pv 7) pa_nil))))))
      (pss_one (ps_if (PW.pt (pw_and (pt_cmpR (op_neDC (K := K) rfl hr.units) (pv 8) (pv 2) (nomark _)) (pw_and1 (pt_val (C8.pe_c (c_L_is_good (K := K) S) hr (by decide) rfl (pa_cons (pv 1) (pa_cons (pv 8) pa_nil))))))) (pss_one (ps_par (i := 4) (j := 2) (by rfl) sc_L_some_steps.nd rfl rfl (by decide) rfl rfl (pa_cons (pe_op (op_catAC (K := K) rfl) (pv 4) (pe_tup (pa_cons (pe_tup (pa_cons (pe_ix (ix_tupC (K := K) rfl) (pe_ix (ix_tupC (K := K) rfl) (pv 1) pe_int (fun _ _ => rfl)) (pv 6) (fun _ _ => rfl)) (pa_cons (pv 7) pa_nil))) pa_nil))) (pa_cons (pv 8) pa_nil)) (by rfl))) pss_nil))))))
      (pss_one (ps_ret (pv 4)))), ?_⟩
    have n5 := fo.n5
    obtain ⟨pf, pr, rs, g1, g2, _, _⟩ := sh.ex
    walk_at "go"
    refine ⟨szc rfl, fun r0 hr0 => ?_⟩
    have s1 := same_new (o := .tup []) hr0
    have e1 : upd H r0 (.tup []) r0 = some (.tup (([] : List Addr).map V.ref)) := upd_same
    have eq1 := s1 _ _ eq
    have k1 := (FK.refl fl).same s1
    generalize upd H r0 (.tup []) = H1 at s1 e1 eq1 k1
    walk_at "go"
    refine ⟨by decide, by decide, ?_⟩
    refine forW (n := 6) walk_r0 (fun i σ H3 => ∃ x5 x6 x7 x8, ∃ fq ra, ∃ ms : List Int, ∃ as ss, σ = [some (.ref F), some (.ref p), some (.ref fq), some (.int 6), some (.ref ra), x5, x6, x7, x8] ∧ FK F H H3 ∧ H3 fq = some (.tup (ms.map V.int)) ∧ ms.length = N.length ∧ (∀ x ∈ ms, -400000 - 100 * (i : Int) ≤ x ∧ x ≤ 400000 + 100 * (i : Int)) ∧ H3 ra = some (.tup (as.map V.ref)) ∧ StsAt H3 as ss ∧ as.length ≤ i ∧ ∀ s ∈ ss, s.1 ∈ N ∧ -500000 ≤ s.2 ∧ s.2 ≤ 500000)
      ⟨_, _, _, _, q, r0, ns, [], [], rfl, k1, eq1, nl, (fun x hx => by have := bn x hx; omega), e1, .nil, Nat.le_refl _, fun s h => by cases h⟩ (fun _ _ _ _ _ => trivial) (fun i x σ H3 H3' hi ⟨x5, x6, x7, x8, fq, ra, ms, as, ss, eσ, k3, ef, ml, mb, er, st, al, sb⟩ hY => ?_) fun σ H3 ⟨x5, x6, x7, x8, fq, ra, ms, as, ss, eσ, k3, ef, ml, mb, er, st, al, sb⟩ => ?_
    · obtain ⟨rfl, rfl⟩ := hY
      subst eσ
      walk_at "go"
      refine ⟨F, _, rfl, by rw [List.length_map, ml]; have := fo.n1; omega, by rw [List.length_map, ml]; omega, k3.fl, fun H4 d k34 d0 d1 => ?_⟩
      rw [List.length_map] at d1
      have k4 := k3.trans k34
      have ef4 := k34.tup k3.fl ef
      walk_at "go"
      obtain ⟨dn, rfl⟩ := Int.eq_ofNat_of_zero_le d0
      have dl : dn < ms.length := by omega
      refine rd_ixT (v := .int ms[dn]) ef4 (atI_nat (by rw [List.getElem?_map, List.getElem?_eq_getElem dl] <;> rfl)) ?_
      walk_at "go"
      refine ⟨F, 41, rfl, by decide, by decide, k4.fl, fun H5 b k45 b0 b1 => ?_⟩
      have k5 := k4.trans k45
      have ef5 := k45.tup k4.fl ef4
      walk_at "go"
      refine ⟨szc rfl, fun pl hpl => ?_⟩
      have k5' := k5.same (same_new (o := .lst [.int 1, .int (-1), .int 1, .int (-1), .int 2, .int (-2), .int (b - 20)]) hpl)
      refine ⟨F, pl, _, rfl, k5'.fl, .inl ⟨upd_same, k5.fl.ne_new hpl⟩, (by intro z; cases z), (by show (7 : Nat) < _; decide), fun H6 v k56 hv => ?_⟩
      have k6 := k5'.trans k56
      obtain ⟨k, rfl, hk1, hk2⟩ : ∃ k : Int, v = .int k ∧ -20 ≤ k ∧ k ≤ 20 := by
        simp only [List.mem_cons, List.not_mem_nil, or_false] at hv
        rcases hv with z | z | z | z | z | z | z
        · exact ⟨1, z, by decide, by decide⟩
        · exact ⟨-1, z, by decide, by decide⟩
        · exact ⟨1, z, by decide, by decide⟩
        · exact ⟨-1, z, by decide, by decide⟩
        · exact ⟨2, z, by decide, by decide⟩
        · exact ⟨-2, z, by decide, by decide⟩
        · exact ⟨b - 20, z, by omega, by omega⟩
      have g16 := k6.tup fl g1
      have g26 := k6.tup fl g2
      have ef6 := k56.tup k5'.fl (same_new hpl _ _ ef5)
      have dN : dn < N.length := by omega
      walk_at "go"
      refine rd_ixT (v := .str N[dn]) g26 (atI_nat (by rw [List.getElem?_map, List.getElem?_eq_getElem dN] <;> rfl)) ?_
      walk_at "go"
      refine ⟨p, fq, N[dn], ms[dn] + k, N, R, ms, rfl, sh.tk (k6.tk fl), n5, ef6, ml, fun H7 lq s67 el => ?_⟩
      walk_at "go"
      have ef7 := s67 _ _ ef6
      have k7 := k6.same s67
      have sh7 := sh.tk (k7.tk fl)
      refine ⟨.tuple ((withL N ms N[dn] (ms[dn] + k)).map PyData.int), .tuple (ms.map PyData.int), dp_tup el ints_da, dp_tup ef7 ints_da, shaped_tints, shaped_tints, ?_⟩
      generalize PyData.eqv (.tuple ((withL N ms N[dn] (ms[dn] + k)).map PyData.int)) (.tuple (ms.map PyData.int)) = same
      have k37 : FK F H3' H7 := (((k34.trans k45).same (same_new hpl)).trans k56).same s67
      have t37 : TK H3' H7 := k37.tk k3.fl
      have er7 := t37 _ _ er
      have st7 := st.tk t37
      have stay : ∀ H8, Same H7 H8 → ∃ x5 x6 x7 x8 fq' ra', ∃ ms' : List Int, ∃ as ss, ([some (.ref F), some (.ref p), some (.ref fq), some (.int 6), some (.ref ra), some (.int (i : Int)), some (.int (dn : Int)), some (.int (ms[dn] + k)), some (.ref lq)] : L2.St) = [some (.ref F), some (.ref p), some (.ref fq'), some (.int 6), some (.ref ra'), x5, x6, x7, x8] ∧ FK F H H8 ∧ H8 fq' = some (.tup (ms'.map V.int)) ∧ ms'.length = N.length ∧ (∀ x ∈ ms', -400000 - 100 * ((i + 1 : Nat) : Int) ≤ x ∧ x ≤ 400000 + 100 * ((i + 1 : Nat) : Int)) ∧ H8 ra' = some (.tup (as.map V.ref)) ∧ StsAt H8 as ss ∧ as.length ≤ i + 1 ∧ ∀ s ∈ ss, s.1 ∈ N ∧ -500000 ≤ s.2 ∧ s.2 ≤ 500000 := fun H8 s8 =>
        ⟨_, _, _, _, fq, ra, ms, as, ss, rfl, k7.same s8, s8 _ _ ef7, ml, (fun x hx => by have := mb x hx; omega), s8 _ _ er7, st7.tk (Same.tk s8), Nat.le_succ_of_le al, sb⟩
      walk_at "go"
      refine ifb (fun h1 => ?_) fun h1 => ?_
      · walk_at "go"
        refine ⟨p, .ref lq, N, R, fun _ => True, _, rfl, sh7, fo, Da.tup el ints_da, ?_, fun H8 s8 => ?_⟩
        · intro ds e
          cases e
          rw [List.length_map, withL_len]
          omega
        · walk_at "go"
          refine ifb (fun h2 => ?_) fun h2 => ?_
          · walk_at "go"
            refine rd_ixT (v := .str N[dn]) (s8 _ _ (s67 _ _ g26)) (atI_nat (by rw [List.getElem?_map, List.getElem?_eq_getElem dN] <;> rfl)) ?_
            walk_at "go"
            refine ⟨szc rfl, fun p1 hp1 => ?_⟩
            have sA : Same H8 (upd H8 p1 (.tup [.str N[dn], .int (ms[dn] + k)])) := same_new hp1
            walk_at "go"
            refine ⟨szc rfl, fun p2 hp2 => ?_⟩
            have sB : Same H8 (upd (upd H8 p1 (.tup [.str N[dn], .int (ms[dn] + k)])) p2 (.tup [.ref p1])) := same_new2 sA hp2
            refine rd_catT (sB _ _ (s8 _ _ er7)) upd_same (sz (by rw [List.length_map, List.length_singleton]; omega)) fun p3 H9 s9 e9 => ?_
            walk_at "go"
            have k9 := (k7.same s8).same (sB.trans s9)
            refine ⟨_, _, _, _, lq, p3, withL N ms N[dn] (ms[dn] + k), as ++ [p1], ss ++ [(N[dn], ms[dn] + k)], rfl, k9, s9 _ _ (sB _ _ (s8 _ _ el)), ?_, ?_, ?_, ?_, ?_, ?_⟩
            · rw [withL_len]
              exact ml
            · intro x hx
              have mk := mb ms[dn] (List.getElem_mem dl)
              rcases withL_mem hx with h | h
              · omega
              · have := mb x h
                omega
            · rw [e9, List.map_append] <;> rfl
            · exact paired_app (st7.tk (Same.tk (s8.trans (sB.trans s9)))) (.cons (s9 _ _ (same_new hp2 _ _ upd_same)) .nil)
            · rw [List.length_append, List.length_singleton]
              omega
            · intro s hs
              rcases List.mem_append.mp hs with h | h
              · exact sb s h
              · rw [List.mem_singleton.mp h]
                have mk := mb ms[dn] (List.getElem_mem dl)
                exact ⟨List.getElem_mem dN, by show -500000 ≤ ms[dn] + k; omega, by show ms[dn] + k ≤ 500000; omega⟩
          · walk_at "go"
            exact stay _ s8
      · walk_at "go"
        exact stay _ (Same.refl _)
    · subst eσ
      walk_at "go"
      exact qq _ _ _ _ k3 er st al sb
end
end K59
/-! K59ReprT -/
set_option Elab.async false
set_option linter.all false
set_option maxRecDepth 100000
set_option maxHeartbeats 4000000
namespace K59
open PySem PySem.W PySem.Calls PySem.Spec PyProof.Rows L2
section
variable {X : Cx}
theorem small_log {n : Int} (h : -1000000000 ≤ n ∧ n ≤ 1000000000) : n.natAbs.log2 < 1920 := by
  have h1 : n.natAbs ≤ 1000000000 := by omega
  by_cases z : n.natAbs = 0
  · rw [z]
    decide
  · exact Nat.lt_trans ((Nat.log2_lt z).mpr (Nat.lt_of_le_of_lt h1 (by decide : 1000000000 < 2 ^ 30))) (by decide)
theorem small_len {n : Int} (h : -1000000000 ≤ n ∧ n ≤ 1000000000) : (numS n).length ≤ 12 := by
  cases n with
  | ofNat m =>
    have e : TL.tl (numS (Int.ofNat m)) = TL.numL m := TL.tl_num m
    have l : (TL.numL m).length ≤ 11 := TL.numL_len (by decide) (by
      have : (m : Int) ≤ 1000000000 := h.2
      omega)
    rw [TL.len_tl, e]
    omega
  | negSucc m =>
    have l : (TL.numL (m + 1)).length ≤ 11 := TL.numL_len (by decide) (by omega)
    rw [TL.len_tl, tl_neg m, List.length_cons]
    omega
theorem ints_repr {prog : Program} {w : World} : ∀ {l : List Int} {its : List Value}, Vals (l.map V.int) its → (∀ n ∈ l, -1000000000 ≤ n ∧ n ≤ 1000000000) → ReprAll prog w its (l.map fun n => numS n)
  | [], _, r, _ => by
    cases r
    exact .nil
  | n :: l, _, r, h => by
    cases r with
    | cons r1 r2 =>
      obtain ⟨t, rfl⟩ := r1
      exact .cons (ReprIs.int t (small_log (h n List.mem_cons_self))) (ints_repr r2 fun z hz => h z (List.mem_cons_of_mem _ hz))
theorem ints_piled : ∀ {l : List Int}, (∀ n ∈ l, -1000000000 ≤ n ∧ n ≤ 1000000000) → piled (l.map fun n => numS n) ≤ 14 * l.length
  | [], _ => Nat.zero_le _
  | n :: l, h => by
    have h1 := small_len (h n List.mem_cons_self)
    have h2 := ints_piled (l := l) fun z hz => h z (List.mem_cons_of_mem _ hz)
    rw [List.map_cons, piled_cons, List.length_cons]
    omega
/-- repr(tuple of small ints): some text -/
def rRepTu (K : Frag) : List V → Hp → VK → Prop := fun xs H Q => ∃ a, ∃ ns : List Int, xs = [.ref a] ∧ H a = some (.tup (ns.map V.int)) ∧ ns.length ≤ 10 ∧ (∀ n ∈ ns, -1000000000 ≤ n ∧ n ≤ 1000000000) ∧ ∀ m : Str, Q (.str m) H
theorem call_repT {K : Frag} (e : X.K = K) (hu : X.A.units + 64 < cLine) : CallR X (.builtin "repr") (rRepTu K) := by
  intro pins s σ H xs us Q I r h
  obtain ⟨a, ns, rfl, ht, hl, hb, q⟩ := h
  subst e
  obtain ⟨u, rfl, rfl⟩ := L2.vals1 r
  obtain ⟨its, rv, ⟨o, ho, hcl, n, hd⟩, _⟩ := I.tuple (.inl (.inl ht))
  have hT := ints_repr (prog := X.prog) (w := X.w) rv hb
  have hp := ints_piled hb
  have ht2 := fmt_text (ns.map fun n => numS n)
  refine call_repr_slot (by omega) ⟨o, ho, hcl⟩ F.slot_tuple_repr ?_
  refine fmt_tuple_repr ho hcl hd hT (Nat.le_trans ht2 (Nat.le_trans (m := 142) (by omega) (by decide))) fun m u tk _ => ⟨m, u, rfl, .str m, H, I.tok _, ⟨u, rfl⟩, q m⟩
end
end K59
/-! K59Apart -/
set_option Elab.async false
set_option linter.all false
set_option maxRecDepth 100000
set_option maxHeartbeats 4000000
namespace K59
open PySem PySem.W PySem.Calls PySem.Spec PyProof.Rows L2

/-! ### rings of the sum 0, in plain Lean -/
/-- from a to b by rules -/
def Chn : Str → List Rl → Str → Prop
  | a, [], b => a = b
  | a, r :: rs, b => r.lo = a ∧ Chn r.hi rs b
theorem Chn.app : ∀ {l k : List Rl} {a b c : Str}, Chn a l b → Chn b k c → Chn a (l ++ k) c
  | [], _, _, _, _, h, g => by
    cases h
    exact g
  | _ :: _, _, _, _, _, h, g => ⟨h.1, Chn.app h.2 g⟩
theorem Chn.cut : ∀ {l k : List Rl} {a c : Str}, Chn a (l ++ k) c → ∃ b, Chn a l b ∧ Chn b k c
  | [], _, a, _, h => ⟨a, rfl, h⟩
  | _ :: _, _, _, _, h => let ⟨b, h1, h2⟩ := Chn.cut h.2; ⟨b, ⟨h.1, h1⟩, h2⟩
theorem Chn.tele (g : Str → Int) : ∀ {rs : List Rl} {a b : Str}, Chn a rs b → (rs.map fun r => g r.hi - g r.lo).sum = g b - g a
  | [], a, b, h => by
    cases h
    show (0 : Int) = g a - g a
    omega
  | r :: rs, a, b, h => by
    rw [List.map_cons, List.sum_cons, Chn.tele g h.2, h.1]
    omega
theorem hiAt_s (r : Rl) (rs : List Rl) (k : Nat) : hiAt (r :: rs) (k + 1) = hiAt rs k := rfl
theorem loAt_s (r : Rl) (rs : List Rl) (k : Nat) : loAt (r :: rs) (k + 1) = loAt rs k := rfl
/-- rules joined one to the next -/
theorem join_chn : ∀ (rs : List Rl), rs ≠ [] → (∀ k, k < rs.length - 1 → hiAt rs k = loAt rs (k + 1)) → Chn (loAt rs 0) rs (hiAt rs (rs.length - 1))
  | [], h, _ => absurd rfl h
  | [r], _, _ => ⟨rfl, rfl⟩
  | r :: q :: rs, _, h => by
    have e : r.hi = q.lo := h 0 (by show 0 < rs.length + 1 + 1 - 1; omega)
    refine ⟨rfl, ?_⟩
    have c := join_chn (q :: rs) (List.cons_ne_nil _ _) fun k hk => h (k + 1) (by
      have hk : k < rs.length + 1 - 1 := hk
      show k + 1 < rs.length + 1 + 1 - 1
      omega)
    have e2 : loAt (q :: rs) 0 = r.hi := e.symm
    rw [e2] at c
    exact c
theorem ring_chn {rs : List Rl} (h : ringB rs = true) : ∃ a, Chn a rs a := by
  unfold ringB at h
  rw [Bool.and_eq_true, Bool.and_eq_true, Bool.and_eq_true] at h
  obtain ⟨h1, h2, h3, _⟩ := h
  have l2 : 2 ≤ rs.length := of_decide_eq_true h1
  have c := join_chn rs (fun z => by rw [z] at l2; exact absurd l2 (by decide)) fun k hk => of_decide_eq_true (List.all_eq_true.mp h2 k (List.mem_range.mpr hk))
  have e : hiAt rs (rs.length - 1) = loAt rs 0 := of_decide_eq_true h3
  rw [e] at c
  exact ⟨_, c⟩
theorem sum_le {f g : Rl → Int} : ∀ {rs : List Rl}, (∀ r ∈ rs, f r ≤ g r) → (rs.map f).sum ≤ (rs.map g).sum
  | [], _ => Int.le_refl _
  | r :: rs, h => by
    rw [List.map_cons, List.map_cons, List.sum_cons, List.sum_cons]
    have h1 := h r List.mem_cons_self
    have h2 := sum_le (rs := rs) fun q hq => h q (List.mem_cons_of_mem _ hq)
    omega
theorem sum_tight {f g : Rl → Int} : ∀ {rs : List Rl}, (∀ r ∈ rs, f r ≤ g r) → (rs.map f).sum = (rs.map g).sum → ∀ r ∈ rs, f r = g r
  | [], _, _, _, h => by cases h
  | q :: rs, h, e, r, hr => by
    rw [List.map_cons, List.map_cons, List.sum_cons, List.sum_cons] at e
    have h1 := h q List.mem_cons_self
    have h2 := sum_le (rs := rs) fun q hq => h q (List.mem_cons_of_mem _ hq)
    rcases List.mem_cons.mp hr with rfl | hr
    · omega
    · exact sum_tight (fun q hq => h q (List.mem_cons_of_mem _ hq)) (by omega) r hr
theorem RlOk.ends {N : List Str} {r : Rl} (h : RlOk N r) (ne : ∀ x ∈ N, x ≠ eS) : r.lo ≠ r.hi := by
  cases r with
  | gap x y c => exact fun z => h.2.2.1 z.symm
  | most x c => exact fun z => ne x h.1 z.symm
  | least x c => exact fun z => ne x h.1 z
/-- the table over a chain -/
theorem chn_tab {N : List Str} {R : List Rl} {T : TF} (fo : FormOk N R) (ok : TabOk N R T) : ∀ {rs : List Rl} {a b : Str}, (∀ r ∈ rs, r ∈ R) → a ∈ eS :: N → Chn a rs b → ∃ w, T b a = some w ∧ w ≤ (rs.map Rl.bd).sum
  | [], a, b, _, ha, h => by
    cases h
    exact ⟨0, ok.dg a ha, Int.le_refl _⟩
  | r :: rs, a, b, hR, ha, h => by
    obtain ⟨rfl, h⟩ := h
    have hr := hR r List.mem_cons_self
    have or := fo.rl r hr
    obtain ⟨w, e1, l1⟩ := chn_tab fo ok (fun q hq => hR q (List.mem_cons_of_mem _ hq)) or.hi h
    obtain ⟨u, e2, l2⟩ := ok.rl r hr
    have hb : b ∈ eS :: N := by
      cases rs with
      | nil =>
        cases h
        exact or.hi
      | cons q rs =>
        clear e1 l1 e2 l2
        have : ∀ {l : List Rl} {a b : Str}, (∀ r ∈ l, r ∈ R) → a ∈ eS :: N → Chn a l b → b ∈ eS :: N := by
          intro l
          induction l with
          | nil =>
            intro a b _ ha h
            cases h
            exact ha
          | cons q l ih =>
            intro a b hl _ h
            exact ih (fun x hx => hl x (List.mem_cons_of_mem _ hx)) (fo.rl q (hl q List.mem_cons_self)).hi h.2
        exact this (fun x hx => hR x (List.mem_cons_of_mem _ hx)) or.hi h
    obtain ⟨z, e3, l3⟩ := ok.cl r.hi or.hi b hb r.lo or.lo w u e1 e2
    refine ⟨z, e3, ?_⟩
    rw [List.map_cons, List.sum_cons]
    omega
section
variable {N : List Str} {R : List Rl} {T : TF} {rs : List Rl} {t : Str}
/-- a rule of the ring that leads to t, and the rest of the ring -/
theorem ring_at (ring : ringB rs = true) (ht : t ∈ rs.map Rl.hi) : ∃ r rest, r ∈ rs ∧ r.hi = t ∧ (∀ q ∈ rest, q ∈ rs) ∧ Chn r.hi rest r.lo ∧ r.bd + (rest.map Rl.bd).sum = (rs.map Rl.bd).sum := by
  obtain ⟨a, c⟩ := ring_chn ring
  obtain ⟨r, hr, e⟩ := List.mem_map.mp ht
  obtain ⟨l, k, rfl⟩ := List.append_of_mem hr
  obtain ⟨b, c1, c2⟩ := Chn.cut c
  obtain ⟨e2, c3⟩ := c2
  refine ⟨r, k ++ l, hr, e, fun q hq => ?_, Chn.app c3 (e2 ▸ c1), ?_⟩
  · rcases List.mem_append.mp hq with h | h
    · exact List.mem_append.mpr (.inr (List.mem_cons_of_mem _ h))
    · exact List.mem_append.mpr (.inl h)
  · rw [List.map_append, List.map_append, List.sum_append_int, List.sum_append_int, List.map_cons, List.sum_cons]
    omega
/-- a field on a ring of the sum 0 is frozen by the table -/
theorem ring_frz (fo : FormOk N R) (ok : TabOk N R T) (hR : ∀ r ∈ rs, r ∈ R) (ring : ringB rs = true) (s0 : (rs.map Rl.bd).sum = 0) (ht : t ∈ rs.map Rl.hi) : ∃ m ∈ eS :: N, Frz N T t m := by
  obtain ⟨r, rest, hr, rfl, hq, c, e⟩ := ring_at ring ht
  have or := fo.rl r (hR r hr)
  obtain ⟨w, e1, l1⟩ := chn_tab fo ok (fun q h => hR q (hq q h)) or.hi c
  obtain ⟨u, e2, l2⟩ := ok.rl r (hR r hr)
  obtain ⟨z, e3, l3⟩ := ok.cl r.lo or.lo r.hi or.hi r.hi or.hi u w e2 e1
  rw [ok.dg r.hi or.hi] at e3
  cases e3
  exact ⟨r.lo, or.lo, or.ends fo.ne, u, w, e2, e1, by omega⟩
/-- .. and bound fast to another one -/
theorem ring_fast (fo : FormOk N R) (hR : ∀ r ∈ rs, r ∈ R) (ring : ringB rs = true) (s0 : (rs.map Rl.bd).sum = 0) (ht : t ∈ rs.map Rl.hi) :
    ∃ m, m ∈ eS :: N ∧ m ≠ t ∧ ∃ c, ∀ ns : List Int, R.all (keepsB N ns) = true → cell ns (posN N t) - cell ns (posN N m) = c := by
  obtain ⟨a, c⟩ := ring_chn ring
  obtain ⟨r, hr, rfl⟩ := List.mem_map.mp ht
  have or := fo.rl r (hR r hr)
  refine ⟨r.lo, or.lo, or.ends fo.ne, r.bd, fun ns h => ?_⟩
  have tele := Chn.tele (fun x => cell ns (posN N x)) c
  refine sum_tight (f := fun r => cell ns (posN N r.hi) - cell ns (posN N r.lo)) (g := Rl.bd) (rs := rs) (fun q hq => ?_) (by rw [tele, s0]; omega) r hr
  exact of_decide_eq_true (List.all_eq_true.mp h q (hR q hq))
end
/-! ### rows of entries -/
inductive Reach (N : List Str) (R : List Rl) (ns : List Int) : List Int → Prop
  | refl : Reach N R ns ns
  | step {ms : List Int} {t : Str} {x : Int} : Reach N R ns ms → t ∈ N → R.all (keepsB N (withL N ms t x)) = true → Reach N R ns (withL N ms t x)
theorem Reach.len {N : List Str} {R : List Rl} {ns ms : List Int} (h : Reach N R ns ms) : ms.length = ns.length := by
  induction h with
  | refl => rfl
  | step _ _ _ ih => rw [withL_len, ih]
theorem ixOf_uniq {x : Str} {N : List Str} {i : Nat} (nd : N.Nodup) (h : N[i]? = some x) : ixOf x N = i := by
  have h2 := (ixOf_get (List.mem_of_getElem? h)).1
  have l1 := (List.getElem?_eq_some_iff.mp h).1
  have l2 := (List.getElem?_eq_some_iff.mp h2).1
  have e : N[ixOf x N] = N[i] := by
    rw [(List.getElem?_eq_some_iff.mp h).2, (List.getElem?_eq_some_iff.mp h2).2]
  rcases Nat.lt_trichotomy (ixOf x N) i with g | g | g
  · exact absurd e (List.pairwise_iff_getElem.mp nd _ _ l2 l1 g)
  · exact g
  · exact absurd e.symm (List.pairwise_iff_getElem.mp nd _ _ l1 l2 g)
theorem cell_name {N : List Str} {ns : List Int} {x : Str} (hx : x ∈ N) (ne : x ≠ eS) : cell ns (posN N x) = (ns[ixOf x N]?).getD 0 := by
  unfold cell posN
  rw [if_neg ne, Nat.add_comm, List.getElem?_cons_succ]
theorem cell_with {N : List Str} {ns : List Int} {s x : Str} {v : Int} (nd : N.Nodup) (ne : ∀ x ∈ N, x ≠ eS) (hl : ns.length = N.length) (hs : s ∈ N) (hx : x ∈ eS :: N) : cell (withL N ns s v) (posN N x) = if x = s then v else cell ns (posN N x) := by
  rcases List.mem_cons.mp hx with rfl | hx
  · rw [if_neg fun z => ne s hs z.symm, posN_0] <;> rfl
  · rw [cell_name hx (ne x hx), cell_name hx (ne x hx)]
    have l : ixOf x N < ns.length := hl ▸ ixOf_lt hx
    have g := (ixOf_get hx).1
    rw [withL_get l, List.getElem?_eq_getElem l]
    by_cases e : x = s
    · subst e
      rw [if_pos rfl, if_pos g] <;> rfl
    · rw [if_neg e, if_neg fun z => e (Option.some.inj (g.symm.trans z))] <;> rfl
/-- a field bound fast keeps its value -/
theorem Reach.fast {N : List Str} {R : List Rl} {ns ms : List Int} {t m : Str} {c : Int} (nd : N.Nodup) (ne : ∀ x ∈ N, x ≠ eS) (hl : ns.length = N.length) (ht : t ∈ N) (hm : m ∈ eS :: N) (mt : m ≠ t) (f : ∀ ns : List Int, R.all (keepsB N ns) = true → cell ns (posN N t) - cell ns (posN N m) = c)
    (g : R.all (keepsB N ns) = true) (h : Reach N R ns ms) : cell ms (posN N t) = cell ns (posN N t) ∧ R.all (keepsB N ms) = true := by
  induction h with
  | refl => exact ⟨rfl, g⟩
  | @step ms s x r hs k ih =>
    obtain ⟨e, k0⟩ := ih
    have l : ms.length = N.length := r.len.trans hl
    refine ⟨?_, k⟩
    have f1 := f _ k0
    have f2 := f _ k
    rw [cell_with nd ne l hs (List.mem_cons_of_mem _ ht), cell_with nd ne l hs hm] at f2
    rw [cell_with nd ne l hs (List.mem_cons_of_mem _ ht)]
    by_cases z : t = s
    · rw [if_pos z] at f2 ⊢
      rw [if_neg fun q => mt (q.trans z.symm)] at f2
      omega
    · rw [if_neg z]
      exact e
theorem diff_cell {N : List Str} {ns ms : List Int} {t : Str} (nd : N.Nodup) (ne : ∀ x ∈ N, x ≠ eS) (h1 : ns.length = N.length) (h2 : ms.length = N.length) (h : t ∈ N) : t ∈ diffL N ns ms ↔ cell ns (posN N t) ≠ cell ms (posN N t) := by
  rw [cell_name h (ne t h), cell_name h (ne t h), diffL_mem]
  have l := ixOf_lt h
  have l1 : ixOf t N < ns.length := by omega
  have l2 : ixOf t N < ms.length := by omega
  constructor
  · rintro ⟨i, e, d⟩
    rw [← ixOf_uniq nd e, List.getElem?_eq_getElem l1, List.getElem?_eq_getElem l2] at d
    rw [List.getElem?_eq_getElem l1, List.getElem?_eq_getElem l2]
    exact fun z => d (congrArg some z)
  · intro d
    refine ⟨_, (ixOf_get h).1, fun z => d ?_⟩
    rw [z]
end K59
/-! K59L15 -/
set_option Elab.async false
set_option linter.all false
set_option maxRecDepth 100000
set_option maxHeartbeats 4000000
namespace K59
open PySem PySem.W PySem.Calls PySem.Spec PyProof.Rows L2
local macro_rules | `(tactic| walk_at "hp") => `(tactic| first
  | assumption
  | exact upd_same
  | (refine same_new (by assumption) _ _ ?_; walk_at "hp")
  | (refine (by assumption : Same _ _) _ _ ?_; walk_at "hp")
  | (refine FK.tk (by assumption) (by assumption) _ _ ?_; walk_at "hp"))
local macro_rules | `(tactic| walk_at "sq") => `(tactic| first
  | assumption
  | exact FrzT.sq (by assumption)
  | (refine sqt_new (by assumption) ?_; walk_at "sq")
  | (refine sqt_same ?_ (by assumption); walk_at "sq"))
local macro_rules | `(tactic| walk_at "fz") => `(tactic| first
  | assumption
  | (refine frz_new (by assumption) ?_; walk_at "fz")
  | (refine FrzT.same ?_ (by assumption); walk_at "fz"))
local macro_rules | `(tactic| walk_at "ic") => `(tactic| first
  | ((with_reducible show (0 : Int) < _); decide)
  | exact Or.inl ⟨by decide, by decide⟩
  | exact Or.inr ⟨by decide, by decide⟩
  | exact (show (0 : Int) < _ ∧ _ < (1073741824 : Int) from ⟨by decide, by decide⟩)
  | exact (show (0 : Int) ≤ _ ∧ _ ≤ (1000000 : Int) ∧ Int.natAbs _ < 2 ^ 64 from ⟨by decide, by decide, by decide⟩)
  | exact (⟨by decide, by decide, by decide⟩ : _ ∧ _ ∧ _))
local macro_rules | `(tactic| walk_at "st") => `(tactic| first
  | with_reducible refine rd_var rfl ?_
  | with_reducible refine rd_c ?_
  | with_reducible refine rd_cons ?_
  | with_reducible refine rd_nil ?_
  | with_reducible refine rd_op ?_
  | with_reducible refine rd_cb ?_
  | with_reducible refine rd_call ?_
  | with_reducible refine rd_test ?_
  | with_reducible refine rd_B ?_
  | with_reducible refine rd_bl ?_
  | with_reducible refine rd_un ?_
  | with_reducible refine rd_and ?_
  | with_reducible refine rd_or ?_
  | with_reducible refine rd_not ?_
  | with_reducible refine rd_andV ?_
  | with_reducible refine rd_orV ?_
  | with_reducible refine rd_notV ?_
  | with_reducible refine rd_if ?_
  | with_reducible refine rd_chain ?_
  | with_reducible refine rd_I0 ?_
  | with_reducible refine rd_U ?_
  | with_reducible refine rd_eqI ?_
  | with_reducible refine rd_neI ?_
  | with_reducible refine rd_eqS ?_
  | with_reducible refine rd_neS ?_
  | with_reducible refine rd_nn ?_
  | with_reducible refine rd_asg ?_
  | with_reducible refine rd_gname ?_
  | with_reducible refine rd_seq ?_
  | with_reducible refine rd_ifS ?_
  | with_reducible refine rd_ret ?_
  | with_reducible refine rd_next ?_
  | with_reducible refine rd_cont ?_
  | with_reducible refine rd_drop ?_
  | with_reducible refine rd_par ?_
  | with_reducible refine rd_vs2 ?_
  | with_reducible refine rd_gsub ?_
  | with_reducible refine rd_gcons ?_
  | with_reducible refine rd_gnil ?_
  | with_reducible refine rd_tup ?_
  | with_reducible refine rd_lst ?_
  | with_reducible refine rd_sl ?_
  | with_reducible refine rd_part ?_
  | with_reducible refine rd_nopart ?_
  | with_reducible refine rd_i1 ?_
  | with_reducible refine rd_bm ?_
  | with_reducible refine rd_yes ?_
  | with_reducible refine rd_lcT ?_
  | with_reducible refine rd_lcL ?_
  | with_reducible refine rd_lcR1 ?_
  | with_reducible refine rd_lcS ?_
  | with_reducible refine rd_forT ?_
  | with_reducible refine rd_forL ?_
  | with_reducible refine rd_forR1 ?_
  | with_reducible refine rd_atS ?_
  | with_reducible refine rd_forEn ?_
  | with_reducible refine rd_dget ?_
  | with_reducible refine rd_din ?_
  | with_reducible refine rd_dget2 ?_
  | with_reducible refine rd_dput ?_
  | with_reducible refine rd_disp ?_
  | with_reducible refine rd_pcons ?_
  | with_reducible refine rd_pnil ?_
  | with_reducible refine rd_dcL ?_
  | with_reducible refine rd_lcEn ?_
  | with_reducible refine rd_yS ?_
  | with_reducible refine rd_m1 ?_
  | with_reducible refine rd_meth ?_
  | with_reducible refine rd_fld ?_
  | with_reducible refine rd_sfld ?_
  | with_reducible refine rd_make ?_
  | with_reducible refine rd_fmt ?_
  | with_reducible refine rd_js ?_
  | with_reducible refine rd_js0 ?_
  | with_reducible refine iteT ?_
  | with_reducible refine iteF ?_
  | ((with_reducible refine isi_int (d := ?d1) (N := ?n1) ?h1 ?_); (case h1 => assumption))
  | ((with_reducible refine isi_bool (d := ?d1) (N := ?n1) ?h1 ?_); (case h1 => assumption))
  | ((with_reducible refine isi_str (d := ?d1) (N := ?n1) ?h1 ?_); (case h1 => assumption))
  | ((with_reducible refine isi_tuple (d := ?d1) (N := ?n1) ?h1 ?_); (case h1 => assumption))
  | with_reducible refine isi_str (N := fun _ => True) (Da.str _) ?_
  | with_reducible refine isi_int (N := fun _ => True) (Da.int _) ?_
  | with_reducible refine isi_bool (N := fun _ => True) (Da.int _) ?_
  | with_reducible refine isi_str (N := fun _ => True) (Da.int _) ?_
  | ((with_reducible show (wipe _ _ = wipe _ _) ∧ _); refine ⟨rfl, ?_⟩)
  | ((with_reducible show Ends.nx _ _ _); dsimp only)
  | ((with_reducible show Ends.rt _ _ _); dsimp only)
  | ((with_reducible show Ends.ct _ _ _); dsimp only)
  | ((with_reducible refine rd_ixT (xs := ?x1) (v := ?v1) ?h1 ?e1 ?_); (case h1 => walk_at "hp"); (case e1 => rfl))
  | ((with_reducible refine rd_ixL (xs := ?x1) (v := ?v1) ?h1 ?e1 ?_); (case h1 => walk_at "hp"); (case e1 => rfl))
  | ((with_reducible refine rd_lenT (xs := ?x1) ?h1 ?_); (case h1 => walk_at "hp"))
  | ((with_reducible refine rd_lenL (xs := ?x1) ?h1 ?_); (case h1 => walk_at "hp"))
  | ((with_reducible refine rd_tupOf (xs := ?x1) ?h1 ?_); (case h1 => walk_at "hp"))
  | ((with_reducible refine rd_all (bs := ?x1) ?h1 ?_); (case h1 => walk_at "hp"))
  | ((with_reducible refine rd_atT (xs := ?x1) ?h1 ?_); (case h1 => walk_at "hp"))
  | ((with_reducible refine rd_atL (xs := ?x1) ?h1 ?_); (case h1 => walk_at "hp"))
  | ((with_reducible refine rd_gtup (xs := ?x1) ?h1 ?e1 ?_); (case h1 => walk_at "hp"); (case e1 => rfl))
  | ((with_reducible refine rd_atEn (xs := ?x1) ?h1 ?_); (case h1 => walk_at "hp"))
  | ((with_reducible refine rd_slT (xs := ?x1) ?h1 ?_); (case h1 => walk_at "hp"))
  | ((with_reducible refine rd_slL (xs := ?x1) ?h1 ?_); (case h1 => walk_at "hp"))
  | ((with_reducible refine rd_inN (N := ?x1) ?h1 ?_); (case h1 => walk_at "hp"))
  | ((with_reducible refine rd_inL (N := ?x1) ?h1 ?_); (case h1 => walk_at "hp"))
  | ((with_reducible refine rd_notInN (N := ?x1) ?h1 ?_); (case h1 => walk_at "hp"))
  | ((with_reducible refine rd_notInL (N := ?x1) ?h1 ?_); (case h1 => walk_at "hp"))
  | with_reducible refine rd_tm ?_
  | ((with_reducible refine rd_isF (xs := ?x1) ?h1 ?_); (case h1 => walk_at "fz"))
  | ((with_reducible refine rd_lenTq (xs := ?x1) ?h1 ?_); (case h1 => walk_at "sq"))
  | ((with_reducible refine rd_atTq (xs := ?x1) ?h1 ?_); (case h1 => walk_at "sq"))
  | ((with_reducible refine rd_atEnq (xs := ?x1) ?h1 ?_); (case h1 => walk_at "sq"))
  | ((with_reducible refine rd_slTq (xs := ?x1) ?h1 ?_); (case h1 => walk_at "sq"))
  | ((with_reducible refine rd_inNq (N := ?x1) ?h1 ?_); (case h1 => walk_at "sq"))
  | ((with_reducible refine rd_setL (xs := ?x1) (j := ?j1) ?h1 ?e1 ?_); (case h1 => walk_at "hp"); (case e1 => rfl))
  | with_reducible refine rd_int1 ?_
  | with_reducible refine rd_x1 ?_
  | with_reducible refine rd_x2 ?_
  | ((with_reducible refine rd_tyL (xs := ?x1) ?h1 ?_); (case h1 => walk_at "hp"))
  | ((with_reducible refine rd_ixsL (xs := ?x1) (v := ?v1) ?h1 ?e1 ?_); (case h1 => walk_at "hp"); (case e1 => rfl))
  | ((with_reducible refine rd_ixsT (xs := ?x1) (v := ?v1) ?h1 ?e1 ?_); (case h1 => walk_at "hp"); (case e1 => rfl))
  | ((with_reducible refine rd_I ?c1 ?_); (case c1 => walk_at "ic"))
  | ((with_reducible refine if_t ?hb1 ?_); (case hb1 => rfl))
  | ((with_reducible refine if_f ?hb1 ?_); (case hb1 => rfl)))
local macro_rules | `(tactic| walk_at "go") => `(tactic| repeat (first | walk_at "st" | dsimp only))
section
variable {P : Program} {w : World} {K : Frag} {mg : Str → Option Value} {base : Heap}

theorem StsAt.get {H : Hp} {as : List Addr} {ss : List (Str × Int)} {i : Nat} {v : V} (h : StsAt H as ss) (e : (as.map V.ref)[i]? = some v) : ∃ a s, v = .ref a ∧ s ∈ ss ∧ StAt H a s.1 s.2 := by
  unfold StsAt at h
  induction h generalizing i with
  | nil => simp at e
  | @cons a s as ss r t ih =>
    cases i with
    | zero =>
      simp at e
      exact ⟨a, s, e.symm, List.mem_cons_self, r⟩
    | succ i =>
      obtain ⟨b, z, h1, h2, h3⟩ := ih (i := i) (by simpa using e)
      exact ⟨b, z, h1, List.mem_cons_of_mem _ h2, h3⟩
theorem ints_back (ns : List Int) : (ns.map PyData.int).map intOf = ns := by
  rw [List.map_map]
  exact List.map_congr_left (fun x _ => rfl) |>.trans (List.map_id _)
theorem goodB_keeps {N : List Str} {R : List Rl} {ns : List Int} (h : goodB N R (.tuple (ns.map PyData.int)) = true) : R.all (keepsB N ns) = true := by
  have h : (areVals N.length (.tuple (ns.map PyData.int)) && R.all (keepsB N ((ns.map PyData.int).map intOf))) = true := h
  rw [Bool.and_eq_true, ints_back] at h
  exact h.2
abbrev N_L_behind : List Str := ["_law_shape_here", "_law_fill", "_law_steps_here", "_law_step", "_law_later"]
theorem sc_L_behind : FnScope N_L_behind ["_law_shape_here", "_law_fill", "_law_steps_here"] (defScope s_L_behind) := ⟨rfl, rfl, rfl, by decide +kernel, rfl, by decide +kernel, by decide +kernel⟩
def sp_behind : Sp := fun vs H Q _ => ∃ p q r as ss, ∃ N : List Str, ∃ R, ∃ ns : List Int, vs = [.ref p, .ref q, .ref r] ∧ ShapeAt H p N R ∧ FormOk N R ∧ H q = some (.tup (ns.map V.int)) ∧ ns.length = N.length ∧ (∀ x ∈ ns, -1000000000 ≤ x ∧ x ≤ 1000000000) ∧
  H r = some (.tup (as.map V.ref)) ∧ StsAt H as ss ∧ (∀ s ∈ ss, s.1 ∈ N ∧ -500000 ≤ s.2 ∧ s.2 ≤ 500000) ∧ ∀ H' v, Same H H' → (v = .non ∨ ∃ q' ms, v = .ref q' ∧ H' q' = some (.tup (ms.map V.int)) ∧ Reach N R ns ms) → Q v H'
theorem c_L_behind (S : Sys K mg) : C8.Cal P w K mg base 5 "_law_behind" sp_behind [] := by
  refine calD S.f_D_L_behind S.g_L_behind sc_L_behind (fun _ _ _ _ _ _ us hl => match us, hl with | [_, _, _], _ => rfl) ?_ ?_
  · rintro vs H Q E ⟨_, _, _, _, _, _, _, _, rfl, _⟩
    rfl
  · rintro cdv A outer s H vs Q E hr ⟨p, q, r, as, ss, N, R, ns, rfl, sh, fo, eq, nl, bn, er, st, sb, qq⟩
    refine ⟨_, pss_cons (ps_for PassesOwn.never rfl (pi_tupC (K := K) rfl (pv 2)) (pg_name (i := 3) sc_L_behind.nd rfl (Or.inl rfl))
        (pss_cons (ps_if (PW.pt (pw_or (pt_not (pt_val (pe_callB (call_isiC (K := K) rfl) (by rfl) S.n_isinstance (by decide +kernel) (pa_cons (pv 3) (pa_cons (pe_bltn (v := .ty "tuple") (by rfl) S.n_tuple (by decide +kernel) rfl) pa_nil))))) (pw_or (pt_cmpR op_ne (pe_callB (call_len_seqC (K := K) rfl) (by rfl) S.n_len (by decide +kernel) (pa_cons (pv 3) pa_nil)) pe_int (nomark _)) (pw_or (pt_not (pt_val (pe_callB (call_isiC (K := K) rfl) (by rfl) S.n_isinstance (by decide +kernel) (pa_cons (pe_ix (ix_tupC (K := K) rfl) (pv 3) pe_int (fun _ _ => rfl)) (pa_cons (pe_bltn (v := .ty "str") (by rfl) S.n_str (by decide +kernel) rfl) pa_nil))))) (pw_or1 (pt_cmpR (op_notIn_seqC (K := K) rfl) (pe_ix (ix_tupC (K := K) rfl) (pv 3) pe_int (fun _ _ => rfl)) (pe_ix (ix_tupC (K := K) rfl) (pv 0) pe_int (fun _ _ => rfl)) rfl)))))) (pss_one (ps_ret pe_non)) pss_nil)
      (pss_cons (ps_set (i := 4) sc_L_behind.nd rfl (Or.inl rfl) (C8.pe_c (c_L_with (K := K) S) hr (by decide) rfl (pa_cons (pv 0) (pa_cons (pv 1) (pa_cons (pe_ix (ix_tupC (K := K) rfl) (pv 3) pe_int (fun _ _ => rfl)) (pa_cons (pe_ix (ix_tupC (K := K) rfl) (pv 3) pe_int (fun _ _ => rfl)) pa_nil))))))
      (pss_cons (ps_if (PW.pt (pw_or (pt_cmpR op_eq (pe_callB (call_repT (K := K) rfl hr.units) (by rfl) S.n_repr (by decide +kernel) (pa_cons (pv 4) pa_nil)) (pe_callB (call_repT (K := K) rfl hr.units) (by rfl) S.n_repr (by decide +kernel) (pa_cons (pv 1) pa_nil)) (nomark _)) (pw_or1 (pt_not (pt_val (C8.pe_c (c_L_is_good (K := K) S) hr (by decide) rfl (pa_cons (pv 0) (pa_cons (pv 4) pa_nil)))))))) (pss_one (ps_ret pe_non)) pss_nil)
      (pss_one (ps_set (i := 1) sc_L_behind.nd rfl (Or.inl rfl) (pv 4)))))))
      (pss_one (ps_ret (pv 1))), ?_⟩
    have n5 := fo.n5
    obtain ⟨pf, pr, rs, g1, g2, _, _⟩ := sh.ex
    walk_at "go"
    refine forW (n := as.length) (G := fun H => SqT K H r (as.map V.ref)) (Y := YAt (as.map V.ref)) (List.length_map (as := as) V.ref ▸ walk_tup) (fun _ σ H3 => ∃ x3 x4 fq, ∃ ms : List Int, σ = [some (.ref p), some (.ref fq), some (.ref r), x3, x4] ∧ Same H H3 ∧ H3 fq = some (.tup (ms.map V.int)) ∧ ms.length = N.length ∧ (∀ x ∈ ms, -1000000000 ≤ x ∧ x ≤ 1000000000) ∧ Reach N R ns ms)
      ⟨_, _, q, ns, rfl, Same.refl _, eq, nl, bn, .refl⟩ (fun _ _ _ _ ⟨_, _, _, _, _, s, _⟩ => .inl (.inl (s _ _ er))) (fun i x σ H3 H3' hi ⟨x3, x4, fq, ms, eσ, s3, ef, ml, mb, rc⟩ hY => ?_) fun σ H3 ⟨x3, x4, fq, ms, eσ, s3, ef, ml, mb, rc⟩ => ?_
    · obtain ⟨rfl, hx⟩ := hY
      subst eσ
      obtain ⟨a, ⟨t, n⟩, rfl, hm, ha⟩ := StsAt.get st hx
      obtain ⟨tN, b1, b2⟩ := sb _ hm
      have ha := s3 _ _ ha
      have g13 := s3 _ _ g1
      have g23 := s3 _ _ g2
      have sh3 := sh.tk (Same.tk s3)
      have da : Da (fun _ => True) H3' (.ref a) (.tuple [.str t, .int n]) := .tup ha (.cons (.str _) (.cons (.int _) .nil))
      walk_at "go"
      refine if_f (by rw [decide_eq_true tN] <;> rfl) ?_
      walk_at "go"
      refine ⟨p, fq, t, n, N, R, ms, rfl, sh3, n5, ef, ml, fun H7 lq s7 el => ?_⟩
      have wb : ∀ x ∈ withL N ms t n, -1000000000 ≤ x ∧ x ≤ 1000000000 := fun x hx => by
        rcases withL_mem hx with h | h
        · have b1 : -500000 ≤ n := b1
          have b2 : n ≤ 500000 := b2
          omega
        · exact mb x h
      walk_at "go"
      refine ⟨lq, _, rfl, el, by rw [withL_len]; omega, wb, fun m1 => ?_⟩
      walk_at "go"
      refine ⟨fq, _, rfl, s7 _ _ ef, by omega, mb, fun m2 => ?_⟩
      walk_at "go"
      refine ifb (fun h1 => ?_) fun h1 => ?_
      · walk_at "go"
        exact qq _ _ (s3.trans s7) (.inl rfl)
      · walk_at "go"
        refine ⟨p, .ref lq, N, R, fun _ => True, _, rfl, sh3.tk (Same.tk s7), fo, Da.tup el ints_da, ?_, fun H8 s8 => ?_⟩
        · intro ds e
          cases e
          rw [List.length_map, withL_len]
          omega
        · walk_at "go"
          refine ifb (fun h2 => ?_) fun h2 => ?_
          · walk_at "go"
            exact qq _ _ (s3.trans (s7.trans s8)) (.inl rfl)
          · walk_at "go"
            exact ⟨_, _, lq, withL N ms t n, rfl, s3.trans (s7.trans s8), s8 _ _ el, by rw [withL_len]; exact ml, wb, .step rc tN (goodB_keeps (by simpa using h2))⟩
    · subst eσ
      walk_at "go"
      exact qq _ _ s3 (.inr ⟨fq, ms, rfl, ef, rc⟩)
end
end K59
/-! K59Rep1 -/
set_option Elab.async false
set_option linter.all false
set_option maxRecDepth 100000
set_option maxHeartbeats 4000000
namespace K59
open PySem PySem.W PySem.Calls PySem.Spec PyProof.Rows L2
/-! ### (x, ..) * k from k = 1 on -/
theorem tuple_once (l : Addr) (items : Array Value) (n : Nat) (dd : Option Addr) (sl : Array (Option Value)) (u : Tok) :
    Meets (Builtin.«tuple.__mul__» ⟨[.ref l, .int 1 u], []⟩) (fun _ R s => s.heap.get? l = some { cls := .type "tuple", dict := dd, data := .seq items n, slots := sl } ∧ R (.ok (.ret (Value.ref l))) s) :=
  .of_wp fun prog w A R s h => by
    obtain ⟨hp, g, d, tk, os⟩ := s
    obtain ⟨hl, h⟩ := h
    have f1 := AutoSeq1.idx_int
    have c0 : (decide ((1 : Int) < -(2 ^ 63)) || decide ((1 : Int) ≥ 2 ^ 63)) = false := by decide
    have c1 : (items.isEmpty || ((1 : Int) == 1)) = true := by rw [show ((1 : Int) == 1) = true from rfl, Bool.or_true]
    wp_walk using wpAny_loadPart' hl
    repeat (first
      | (refine wpAny_ite_false (decide_eq_false (by rw [c0]; exact Bool.false_ne_true)) ?_; wp_walk using wpAny_loadPart' hl)
      | (refine wpAny_ite_true (decide_eq_true c1) ?_; wp_walk using wpAny_loadPart' hl))
    exact ⟨_, rfl, h⟩
def rRep1 : R2 := fun x y H Q => ∃ l k xs, x = .ref l ∧ y = .int k ∧ H l = some (.tup xs) ∧ xs ≠ [] ∧ 1 ≤ k ∧ k ≤ 1000 ∧ xs.length ≤ 1000 ∧ ∀ p H', Same H H' → H' p = some (.tup (List.replicate k.toNat xs).flatten) → Q (.ref p) H'
section
variable {X : Cx}
theorem op_rep1 {K : Frag} (eK : X.K = K) : OpR X (binaryOp .Mult) rRep1 := by
  intro pins s σ H x y v u Q I rx ry h
  obtain ⟨l, k, xs, rfl, rfl, hT, hne, h1, h2, hz, q⟩ := h
  by_cases k1 : k = 1
  · subst k1
    cases rx
    obtain ⟨t, rfl⟩ := ry
    obtain ⟨its, r, ⟨⟨cl, dd, da, sl⟩, ho, hc, n, hd⟩, hs⟩ := I.tuple (.inl (.inl hT))
    simp only at hc hd
    subst hc hd
    refine wpAny_binaryOp_repeat_ref (T := "tuple") (U := "int") (by decide) ⟨_, ho, rfl⟩ (fun s' => typeIs_int s' 1 t) noFill_tuple_mul F.fills_int_mul F.slot_int_rmul repeat_tuple F.slot_int_index.lookup ?_
    refine call_meets F.slot_int_rmul (typeIs_int s 1 t) F.entry_int_rmul (F.args_int_rmul_2 _ _) (int_rmul_tuple 1 t l its.toArray n dd sl) ⟨ho, rfl, ⟨_, ho, rfl⟩, ?_⟩
    refine call_meets F.slot_tuple_mul ⟨_, ho, rfl⟩ F.entry_tuple_mul (F.args_tuple_mul_2 _ _) (tuple_once l its.toArray n dd sl t) ⟨ho, ?_⟩
    exact ⟨.ref l, H, I, rfl, q l H (Same.refl H) (by rw [hT]; simp)⟩
  · exact op_repT pins s σ H _ _ v u Q I rx ry ⟨l, k, xs, rfl, rfl, .inl (.inl hT), hne, by omega, h2, hz, fun p hp => q p _ (same_new hp) upd_same⟩
end
end K59
/-! K59G -/
set_option Elab.async false
set_option linter.all false
set_option maxRecDepth 100000
set_option maxHeartbeats 4000000
namespace K59
open PySem PySem.W PySem.Calls PySem.Spec PyProof.Rows L2
/-! ### defs that may ask for a list's repr: nothing is under way around them -/
structure FnG (P : Program) (w : World) (K : Frag) (mg : Str → Option Value) (base : Heap) (k : Nat) (f : Addr) (fd : FuncData) (ps : List Str) (sp : Sp) : Prop where
  lenG : ∀ vs H Q E, sp vs H Q E → vs.length = ps.length
  runG : ∀ (A : Around) (outs : List Env) (s : Shared) (H : Hp) (args : Args) (us : List Value) (vs : List V) (Q : VK) (E : XK), A.guards = some [] → Room k A → Env0 P w K mg base A outs s H →
    BindsTo s fd args (ps.zip us) → Vals vs us → sp vs H Q E → codeAny (model P w) A (.call (.ref f) args) (CR C8.CX0 outs P w H s Q E) s
section
variable {P : Program} {w : World} {K : Frag} {mg : Str → Option Value} {base : Heap}
abbrev BodyG (P : Program) (w : World) (K : Frag) (mg : Str → Option Value) (base : Heap) (k : Nat) (qual : Str) (st : Stmt) (N : List Str) (f : Addr) (sp : Sp) : Prop :=
  ∀ (cdv : Value) (A : Around) (outer : List Env) (s : Shared) (H : Hp) (vs : List V) (Q : VK) (E : XK), A.guards = some [] → Room k (A.deeper (envOfC qual (defScope st) s.heap.objs.size f cdv)) → sp vs H Q E →
    ∃ t, PSs (cxOf C8.CX0 P w K mg base N qual (defScope st) f cdv A outer s H E).nox (defBody st) t ∧ t { nx := fun _ H' => Q .non H', rt := Q } (start N vs) H
theorem fnG {x qual : Str} {st : Stmt} {N ps : List Str} {k : Nat} {sp : Sp} {f : Addr} {fd : FuncData} {dvs : List V} {kws : List (Str × V)} (F : FunD K x qual (defArgs st) (defBody st) (defScope st) dvs kws f fd) (S : FnScope N ps (defScope st))
    (len : ∀ vs H Q E, sp vs H Q E → vs.length = ps.length) (hb : BodyG P w K mg base k qual st N f sp) : FnG P w K mg base (k + 1) f fd ps sp := by
  obtain ⟨c1, c2, c3, c4, c5, c6, c7, cv, c8, c9, rfl, at_, code, _, _⟩ := F.ex
  refine ⟨len, fun A outs s H args us vs Q E g room e0 bi rel hsp => ?_⟩
  have vl := len _ _ _ _ hsp
  have keep : ∀ b o, base.get? b = some o → s.heap.get? b = some o := fun b o e => (e0.bs b o e).1
  obtain ⟨t, tb, tq⟩ := hb cv A outs s H vs Q E g (room.deeper _) hsp
  refine Att.call_fn (e0.mod.kin.keeps keep) (e0.mod.nolimit.keeps keep) at_ code room.depth bi (List.all_eq_true.mpr fun y hy => ?_) (fun s1 ic => ?_) S.co S.gen S.kind
  · rcases S.par y.1 (List.of_mem_zip (show (y.1, y.2) ∈ ps.zip us from hy)).1 with z | z
    · rw [z] <;> rfl
    · rw [z] <;> rfl
  · have I := inv_start (CX := C8.CX0) (N := N) (f := f) (E := E) S room.hd e0 vl rel ic
    refine wpAny_mono (tb.nox.run [] s1 (start N vs) H _ I tq) (fun fl s2 z => ?_) (fun _ _ z => z)
    cases fl with
    | ret u =>
      obtain ⟨v, σ2, H2, J, rv, q⟩ := z
      exact ⟨v, H2, J.os, J.bare, J.base, J.hok, rv, q⟩
    | next =>
      obtain ⟨σ2, H2, J, q⟩ := z
      exact ⟨.non, H2, J.os, J.bare, J.base, J.hok, rfl, q⟩
    | brk => exact z.elim fun _ z => z.elim fun _ z => z.2.elim
    | cont => exact z.elim fun _ z => z.elim fun _ z => z.2.elim
/-- such a def, under its name -/
structure CalG (P : Program) (w : World) (K : Frag) (mg : Str → Option Value) (base : Heap) (k : Nat) (x : Str) (sp : Sp) : Prop where
  exG : ∃ (f : Addr) (fd : FuncData) (ps : List Str), FnG P w K mg base k f fd ps sp ∧ mg x = some (.ref f) ∧ keepIn K (.ref f) = true ∧ Binds K fd ps []
theorem calG {x : Str} {st : Stmt} {N ps : List Str} {k : Nat} {sp : Sp} {f : Addr} (F : ∃ fd, FunD K x x (defArgs st) (defBody st) (defScope st) [] [] f fd) (hm : mg x = some (.ref f)) (S : FnScope N ps (defScope st)) (b : BindsOk x x st ps)
    (len : ∀ vs H Q E, sp vs H Q E → vs.length = ps.length) (hb : BodyG P w K mg base k x st N f sp) : CalG P w K mg base (k + 1) x sp := by
  obtain ⟨fd, F⟩ := F
  exact ⟨f, fd, ps, fnG F S len hb, hm, F.kp, F.bindsN b⟩
end
section
variable {X : Cx} {k j : Nat} {x : Str} {sp : Sp} {p pos : Pos} {e : Expr} {es : List Expr} {t : TA}
theorem pe_g (c : CalG X.prog X.w X.K X.mg X.base k x sp) (gd : X.A.guards = some []) (hr : Room j X.A) (hk : k ≤ j) (hg : Gl X x) (ha : PA X (e :: es) t)
    (hdb : (x == ("__debug__" : Str)) = false := by decide) (he : starEach (e :: es) X.env = (false, eval e X.env) :: starEach es X.env := by rfl) (hpl : (backTo pos (starEach es X.env)).any (·.1) = false := by rfl) :
    PE X (.Call (.Name x p) (e :: es) [] pos) (tCall sp [] C8.E0 t) := by
  obtain ⟨f, fd, ps, F, hm, kp, bi⟩ := c.exG
  refine ⟨fun pins s σ H Q I h => wpAny_Call_Name_kw (ld_glob I hg hm ?_ hdb)⟩
  refine callWith_K (h₀ := X.base) I.ok.mod.kin kp (thn (ha.run pos pins s σ H _ I h) fun us s1 ⟨vs, H1, I1, rel, q⟩ => ⟨I1.kIn, ?_⟩) he hpl
  have rel2 : Vals (vs ++ []) (us ++ []) := rel.append .nil
  have hl : (us ++ []).length = ps.length := rel2.length.symm.trans (F.lenG _ _ _ _ q)
  refine wpAny_call (codeAny_mono (F.runG X.A X.stack s1 H1 ⟨us, []⟩ (us ++ []) (vs ++ []) Q C8.E0 gd (hr.mono hk) I1.env0 (bi s1 us I1.kIn hl) rel2 q) fun r s2 z => ?_)
  cases r with
  | error _ => exact z.elim
  | ok fl =>
    cases fl with
    | ret u => exact I1.after z
    | next => exact z.elim
    | brk => exact z.elim
    | cont => exact z.elim
/-! ### repr of a list of two bools -/
def twoS (a b : Bool) : Str := listText [if a then "True" else "False", if b then "True" else "False"]
theorem two_len : ∀ a b, (twoS a b).length ≤ 20 := by decide +kernel
theorem two_inj : ∀ a b c d, twoS a b = twoS c d ↔ a = c ∧ b = d := by decide +kernel
def rRep2 : List V → Hp → VK → Prop := fun xs H Q => ∃ a b c, xs = [.ref a] ∧ H a = some (.lst [.bl b, .bl c]) ∧ Q (.str (twoS b c)) H
theorem call_rep2 {K : Frag} (eK : X.K = K) (gd : X.A.guards = some []) (hu : X.A.units + 64 < cLine) : CallR X (.builtin "repr") rRep2 := by
  intro pins s σ H xs us Q I rel h
  obtain ⟨a, b, c, rfl, ha, q⟩ := h
  obtain ⟨u, rfl, rfl⟩ := L2.vals1 rel
  obtain ⟨its, rv, ⟨ob, n, oa, oc, _, od⟩, _⟩ := I.list (.inl (.inl ha))
  cases rv with
  | cons r1 rv =>
    cases rv with
    | cons r2 rv =>
      cases rv
      cases r1
      cases r2
      refine call_repr_slot (by omega) ⟨ob, oa, oc⟩ F.slot_list_repr.toG ?_
      refine call_list_repr (ts := [if b then "True" else "False", if c then "True" else "False"]) ⟨ob, oa, oc⟩ (g := []) gd (fun _ _ _ z => nomatch z) oa od rfl (fun i y hy => ?_) (fun h2 u2 tk2 kp => ⟨_, u2, rfl, .str _, H, I.kept kp, ⟨u2, rfl⟩, q⟩) (Nat.le_trans (two_len b c) (by decide))
      match i, hy with
      | 0, hy =>
        cases hy
        exact ⟨_, rfl, ReprIs.bool b⟩
      | 1, hy =>
        cases hy
        exact ⟨_, rfl, ReprIs.bool c⟩
end
end K59
/-! K59Due -/
set_option Elab.async false
set_option linter.all false
set_option maxRecDepth 100000
set_option maxHeartbeats 4000000
namespace K59
open PySem PySem.W PySem.Calls PySem.Spec PyProof.Rows L2
/-! ### what `right` is asked of, in plain Lean -/
theorem apart_iff {N : List Str} {R : List Rl} {ns ms : List Int} {d : PyData} : apartB N R ns ms d = true ↔ ∃ t e rs, d = .tuple [.str t, e] ∧ t ∈ N ∧ cell ns (posN N t) ≠ cell ms (posN N t) ∧ ringD R e = some rs ∧ (rs.map Rl.bd).sum = 0 ∧ t ∈ rs.map Rl.hi := by
  constructor
  · intro h
    unfold apartB at h
    split at h
    · rename_i t e
      rw [Bool.and_eq_true, Bool.and_eq_true] at h
      obtain ⟨h1, h2, h3⟩ := h
      unfold liesB at h3
      cases hr : ringD R e with
      | none =>
        rw [hr] at h3
        cases h3
      | some rs =>
        rw [hr] at h3
        have h3 : (decide ((rs.map Rl.bd).sum = 0) && decide (t ∈ rs.map Rl.hi)) = true := h3
        rw [Bool.and_eq_true] at h3
        exact ⟨t, e, rs, rfl, of_decide_eq_true h1, by simpa using h2, hr, of_decide_eq_true h3.1, of_decide_eq_true h3.2⟩
    · cases h
  · rintro ⟨t, e, rs, rfl, h1, h2, h3, h4, h5⟩
    show (decide (t ∈ N) && (!decide (cell ns (posN N t) = cell ms (posN N t)) && liesB R t e)) = true
    unfold liesB
    rw [h3, decide_eq_true h1, decide_eq_false h2]
    show (true && (!false && (decide ((rs.map Rl.bd).sum = 0) && decide (t ∈ rs.map Rl.hi)))) = true
    rw [decide_eq_true h4, decide_eq_true h5] <;> rfl
theorem claim_iff {N : List Str} {R : List Rl} {d1 d2 d : PyData} (g1 : goodB N R d1 = true) : claimB N R d1 d2 d = true ↔ goodB N R d2 = true ∧ apartB N R (numsOf d1) (numsOf d2) d = true := by
  unfold claimB
  rw [g1, Bool.true_and, Bool.and_eq_true]
theorem claim_no {N : List Str} {R : List Rl} {d1 d2 d : PyData} (g1 : goodB N R d1 = true) (h : ¬ (goodB N R d2 = true ∧ apartB N R (numsOf d1) (numsOf d2) d = true)) : claimB N R d1 d2 d = false :=
  Bool.eq_false_iff.mpr fun z => h ((claim_iff g1).mp z)
theorem ring_in_R {N : List Str} {R : List Rl} {e : PyData} {rs : List Rl} (h : ringD R e = some rs) : ringB rs = true ∧ (∀ r ∈ rs, r ∈ R) ∧ ∃ ds, e = .tuple ds ∧ ds.all (btwD 0 ((R.length : Int) - 1)) = true ∧ rs = ds.map (rAt R) := by
  obtain ⟨h1, h2⟩ := ring_some h
  refine ⟨h2, ?_⟩
  unfold spotsR at h1
  split at h1
  · rename_i ds
    by_cases z : ds.all (btwD 0 ((R.length : Int) - 1)) = true
    · rw [if_pos z] at h1
      cases h1
      refine ⟨fun r hr => ?_, ds, rfl, z, rfl⟩
      obtain ⟨d, hd, rfl⟩ := List.mem_map.mp hr
      obtain ⟨i, _, _, _, h⟩ := rAt_mem (List.all_eq_true.mp z d hd)
      exact h
    · rw [if_neg z] at h1
      cases h1
  · cases h1
theorem eqv_ints : ∀ {xs ys : List Int}, PyData.eqvAll (xs.map PyData.int) (ys.map PyData.int) = true → xs = ys
  | [], [], _ => rfl
  | [], _ :: _, h => by cases h
  | _ :: _, [], h => by cases h
  | x :: xs, y :: ys, h => by
    have h : ((x == y) && PyData.eqvAll (xs.map PyData.int) (ys.map PyData.int)) = true := h
    rw [Bool.and_eq_true] at h
    rw [eq_of_beq h.1, eqv_ints h.2]
/-- the claim is true: then both are not akin by the table, and no row of entries leads there -/
theorem claim_law {N : List Str} {R : List Rl} {ns ms : List Int} {t : Str} {rs : List Rl} (fo : FormOk N R) (hb : hasB N (tabF N R) = true) (l1 : ns.length = N.length) (l2 : ms.length = N.length) (g1 : R.all (keepsB N ns) = true)
    (ht : t ∈ N) (df : cell ns (posN N t) ≠ cell ms (posN N t)) (hR : ∀ r ∈ rs, r ∈ R) (ring : ringB rs = true) (s0 : (rs.map Rl.bd).sum = 0) (hh : t ∈ rs.map Rl.hi) :
    (t ∈ diffL N ns ms ∧ ∃ m ∈ eS :: N, Frz N (tabF N R) t m) ∧ ∀ ks, Reach N R ns ks → ks ≠ ms := by
  have dg : ∀ a ∈ eS :: N, tabF N R a a = some 0 := fun a ha => of_decide_eq_true (List.all_eq_true.mp hb a ha)
  have tk := tab_ok fo dg
  refine ⟨⟨(diff_cell fo.nd fo.ne l1 l2 ht).mpr df, ring_frz fo tk hR ring s0 hh⟩, fun ks rc z => ?_⟩
  obtain ⟨m, hm, mt, c, f⟩ := ring_fast fo hR ring s0 hh
  obtain ⟨e, _⟩ := rc.fast fo.nd fo.ne l1 ht hm mt f g1
  exact df (by rw [← z]; exact e.symm)
/-! ### data that may be a paper, a mate -/
def DaP (F : Addr) (H : Hp) (v : V) : Prop := ∃ d, Da (· ≠ F) H v d ∧ (∀ t e, d = .tuple [t, e] → ∀ ds, e = .tuple ds → ds.length ≤ 1000) ∧ ∀ ds, d = .tuple ds → ds.length ≤ 1000
def DaM (F : Addr) (H : Hp) (v : V) : Prop := ∃ d, Da (· ≠ F) H v d ∧ ∀ ds, d = .tuple ds → ds.length ≤ 1000
theorem DaP.fk {F : Addr} {H H' : Hp} {v : V} (h : DaP F H v) (s : FK F H H') (fl : Fl H F) : DaP F H' v := let ⟨d, a, b, c⟩ := h; ⟨d, a.fk s fl, b, c⟩
theorem DaS.paper {F : Addr} {H : Hp} {v : V} (h : DaS F H v) : DaP F H v := by
  obtain ⟨d, a, b⟩ := h
  refine ⟨d, a, fun t e z ds z2 => ?_, fun ds z => Nat.le_trans (b ds z).1 (by decide)⟩
  exact Nat.le_trans ((b _ z).2 e (List.mem_cons_of_mem _ List.mem_cons_self) ds z2) (by decide)
theorem DaS.pair {F : Addr} {H : Hp} {a : Addr} {t : Str} {v : V} (h : DaS F H v) (e : H a = some (.tup [.str t, v])) : DaP F H (.ref a) := by
  obtain ⟨d, x, b⟩ := h
  refine ⟨.tuple [.str t, d], .tup e (.cons (.str t) (.cons x .nil)), fun t' e' z ds z2 => ?_, fun ds z => by cases z; exact Nat.le_of_ble_eq_true rfl⟩
  cases z
  exact Nat.le_trans (b ds z2).1 (by decide)
theorem DaS.riap {F : Addr} {H : Hp} {a : Addr} {t : Str} {v : V} (h : DaS F H v) (e : H a = some (.tup [v, .str t])) : DaP F H (.ref a) := by
  obtain ⟨d, x, b⟩ := h
  refine ⟨.tuple [d, .str t], .tup e (.cons x (.cons (.str t) .nil)), fun t' e' z ds z2 => ?_, fun ds z => by cases z; exact Nat.le_of_ble_eq_true rfl⟩
  cases z
  cases z2
theorem DaS.three {F : Addr} {H : Hp} {a : Addr} {t : Str} {v : V} {i : Int} (h : DaS F H v) (e : H a = some (.tup [.str t, v, .int i])) : DaP F H (.ref a) := by
  obtain ⟨d, x, b⟩ := h
  refine ⟨.tuple [.str t, d, .int i], .tup e (.cons (.str t) (.cons x (.cons (.int i) .nil))), fun t' e' z ds z2 => ?_, fun ds z => by cases z; exact Nat.le_of_ble_eq_true rfl⟩
  cases z
theorem DaS.lst2 {F : Addr} {H : Hp} {a : Addr} {t : Str} {v : V} (h : DaS F H v) (e : H a = some (.lst [.str t, v])) (n : a ≠ F) : DaP F H (.ref a) := by
  obtain ⟨d, x, b⟩ := h
  refine ⟨.list [.str t, d], .lst e n (.cons (.str t) (.cons x .nil)), fun t' e' z ds z2 => ?_, fun ds z => by cases z⟩
  cases z
theorem DaP.str {F : Addr} {H : Hp} {t : Str} : DaP F H (.str t) := ⟨.str t, .str t, (fun _ _ z => by cases z), (fun _ z => by cases z)⟩
theorem DaM.tup {F : Addr} {H : Hp} {a : Addr} {ns : List Int} (e : H a = some (.tup (ns.map V.int))) (l : ns.length ≤ 1000) : DaM F H (.ref a) :=
  ⟨.tuple (ns.map PyData.int), .tup e DaAll.ints, fun ds z => by cases z; rw [List.length_map]; exact l⟩
theorem DaM.lst {F : Addr} {H : Hp} {a : Addr} {ns : List Int} (e : H a = some (.lst (ns.map V.int))) (n : a ≠ F) : DaM F H (.ref a) :=
  ⟨.list (ns.map PyData.int), .lst e n DaAll.ints, fun ds z => by cases z⟩
theorem DaM.non {F : Addr} {H : Hp} : DaM F H .non := ⟨.none, .non, fun ds z => by cases z⟩
theorem DaM.fk {F : Addr} {H H' : Hp} {v : V} (h : DaM F H v) (s : FK F H H') (fl : Fl H F) : DaM F H' v := let ⟨d, a, c⟩ := h; ⟨d, a.fk s fl, c⟩
theorem cut_ints {ns : List Int} {lo hi : Option Int} : ∃ ms : List Int, cutV (ns.map V.int) lo hi = ms.map V.int ∧ ms.length ≤ ns.length := by
  unfold cutV
  refine ⟨(ns.drop (HT.sIx (ns.map V.int).length 0 lo)).take (HT.sIx (ns.map V.int).length (ns.map V.int).length hi - HT.sIx (ns.map V.int).length 0 lo), ?_, ?_⟩
  · rw [List.map_take, List.map_drop]
  · rw [List.length_take, List.length_drop]
    omega
theorem rep_ints {k : Nat} {i : Int} : (List.replicate k [V.int i]).flatten = (List.replicate k i).map V.int := by
  induction k with
  | zero => rfl
  | succ k ih =>
    rw [List.replicate_succ, List.replicate_succ, List.flatten_cons, ih] <;> rfl
theorem rep_mem {α : Type} {k : Nat} {xs : List α} {x : α} (h : x ∈ (List.replicate k xs).flatten) : x ∈ xs := by
  obtain ⟨l, h1, h2⟩ := List.mem_flatten.mp h
  rw [(List.mem_replicate.mp h1).2] at h2
  exact h2
theorem rep_len {α : Type} {k : Nat} {xs : List α} : (List.replicate k xs).flatten.length = k * xs.length := by
  induction k with
  | zero => rw [Nat.zero_mul] <;> rfl
  | succ k ih => rw [List.replicate_succ, List.flatten_cons, List.length_append, ih, Nat.succ_mul, Nat.add_comm]
theorem seq_cut {a rest : TS} {D : Ends} {σ : L2.St} {H : Hp} (Pv : L2.St → Hp → Prop) (q : ∀ Nx : L2.St → Hp → Prop, (∀ σ H, Pv σ H → Nx σ H) → a { D with nx := Nx } σ H) (M : ∀ σ H, Pv σ H → rest D σ H) : tSeq a rest D σ H := q (rest D) M
theorem rd_eqN0 {H : Hp} {Q : VK} {i : Int} (q : Q (.bl false) H) : rEq .non (.int i) H Q := ⟨rfl, by rw [decide_eq_false (by intro z; cases z)]; exact q⟩
theorem ringV_or (R : List Rl) (d : PyData) : ringV R d = .non ∨ ∃ z, ringV R d = .int z := by
  unfold ringV
  cases ringD R d with
  | none => exact .inl rfl
  | some rs => exact .inr ⟨_, rfl⟩
/-- two bools' reprs -/
theorem rd_rep2 {H : Hp} {Q : VK} {a : Addr} {b c : Bool} (h : H a = some (.lst [.bl b, .bl c])) (q : Q (.str (twoS b c)) H) : rRep2 [.ref a] H Q := ⟨a, b, c, rfl, h, q⟩
theorem rd_kw2 {sp : Sp} {tk : TA} {σ : L2.St} {H : Hp} {Q : VK} (q : tk σ H fun zs H1 => ∃ a b, zs = [a, b] ∧ sp [b, a] H1 Q C8.E0) : tKw2 sp tk σ H Q := q
theorem Da.isT {F : Addr} {H : Hp} {v : V} {d : PyData} (h : Da (· ≠ F) H v d) (e : isTupB d = true) : ∃ a xs ds, v = .ref a ∧ d = .tuple ds ∧ H a = some (.tup xs) ∧ DaAll (· ≠ F) H xs ds := by
  cases d with
  | tuple ds =>
    obtain ⟨a, xs, h1, h2, h3⟩ := h.tupInv
    exact ⟨a, xs, ds, h1, rfl, h2, h3⟩
  | _ => cases e
theorem DaAll.two {F : Addr} {H : Hp} {xs : List V} {ds : List PyData} (h : DaAll (· ≠ F) H xs ds) (e : xs.length = 2) : ∃ x y d e, xs = [x, y] ∧ ds = [d, e] ∧ Da (· ≠ F) H x d ∧ Da (· ≠ F) H y e := by
  cases h with
  | nil => cases e
  | cons h1 h =>
    cases h with
    | nil => cases e
    | cons h2 h =>
      cases h with
      | nil => exact ⟨_, _, _, _, rfl, rfl, h1, h2⟩
      | cons h3 h => simp at e
theorem Da.isS {F : Addr} {H : Hp} {v : V} {d : PyData} (h : Da (· ≠ F) H v d) (e : isStrB d = true) : ∃ t, v = .str t ∧ d = .str t := by
  cases d with
  | str t =>
    cases h
    exact ⟨t, rfl, rfl⟩
  | _ => cases e
end K59
/-! K59L16 -/
set_option Elab.async false
set_option linter.all false
set_option maxRecDepth 100000
set_option maxHeartbeats 4000000
namespace K59
open PySem PySem.W PySem.Calls PySem.Spec PyProof.Rows L2
local macro_rules | `(tactic| walk_at "hp") => `(tactic| first
  | assumption
  | exact upd_same
  | (refine same_new (by assumption) _ _ ?_; walk_at "hp")
  | (refine (by assumption : Same _ _) _ _ ?_; walk_at "hp")
  | (refine FK.tk (by assumption) (by assumption) _ _ ?_; walk_at "hp"))
local macro_rules | `(tactic| walk_at "sq") => `(tactic| first
  | assumption
  | exact FrzT.sq (by assumption)
  | (refine sqt_new (by assumption) ?_; walk_at "sq")
  | (refine sqt_same ?_ (by assumption); walk_at "sq"))
local macro_rules | `(tactic| walk_at "fz") => `(tactic| first
  | assumption
  | (refine frz_new (by assumption) ?_; walk_at "fz")
  | (refine FrzT.same ?_ (by assumption); walk_at "fz"))
local macro_rules | `(tactic| walk_at "ic") => `(tactic| first
  | ((with_reducible show (0 : Int) < _); decide)
  | exact Or.inl ⟨by decide, by decide⟩
  | exact Or.inr ⟨by decide, by decide⟩
  | exact (show (0 : Int) < _ ∧ _ < (1073741824 : Int) from ⟨by decide, by decide⟩)
  | exact (show (0 : Int) ≤ _ ∧ _ ≤ (1000000 : Int) ∧ Int.natAbs _ < 2 ^ 64 from ⟨by decide, by decide, by decide⟩)
  | exact (⟨by decide, by decide, by decide⟩ : _ ∧ _ ∧ _))
local macro_rules | `(tactic| walk_at "st") => `(tactic| first
  | with_reducible refine rd_var rfl ?_
  | with_reducible refine rd_c ?_
  | with_reducible refine rd_cons ?_
  | with_reducible refine rd_nil ?_
  | with_reducible refine rd_op ?_
  | with_reducible refine rd_cb ?_
  | with_reducible refine rd_call ?_
  | with_reducible refine rd_test ?_
  | with_reducible refine rd_B ?_
  | with_reducible refine rd_bl ?_
  | with_reducible refine rd_un ?_
  | with_reducible refine rd_and ?_
  | with_reducible refine rd_or ?_
  | with_reducible refine rd_not ?_
  | with_reducible refine rd_andV ?_
  | with_reducible refine rd_orV ?_
  | with_reducible refine rd_notV ?_
  | with_reducible refine rd_if ?_
  | with_reducible refine rd_chain ?_
  | with_reducible refine rd_I0 ?_
  | with_reducible refine rd_U ?_
  | with_reducible refine rd_eqI ?_
  | with_reducible refine rd_neI ?_
  | with_reducible refine rd_eqS ?_
  | with_reducible refine rd_neS ?_
  | with_reducible refine rd_nn ?_
  | with_reducible refine rd_asg ?_
  | with_reducible refine rd_gname ?_
  | with_reducible refine rd_seq ?_
  | with_reducible refine rd_ifS ?_
  | with_reducible refine rd_ret ?_
  | with_reducible refine rd_next ?_
  | with_reducible refine rd_cont ?_
  | with_reducible refine rd_drop ?_
  | with_reducible refine rd_par ?_
  | with_reducible refine rd_vs2 ?_
  | with_reducible refine rd_gsub ?_
  | with_reducible refine rd_gcons ?_
  | with_reducible refine rd_gnil ?_
  | with_reducible refine rd_tup ?_
  | with_reducible refine rd_lst ?_
  | with_reducible refine rd_sl ?_
  | with_reducible refine rd_part ?_
  | with_reducible refine rd_nopart ?_
  | with_reducible refine rd_i1 ?_
  | with_reducible refine rd_bm ?_
  | with_reducible refine rd_yes ?_
  | with_reducible refine rd_lcT ?_
  | with_reducible refine rd_lcL ?_
  | with_reducible refine rd_lcR1 ?_
  | with_reducible refine rd_lcS ?_
  | with_reducible refine rd_forT ?_
  | with_reducible refine rd_forL ?_
  | with_reducible refine rd_forR1 ?_
  | with_reducible refine rd_atS ?_
  | with_reducible refine rd_forEn ?_
  | with_reducible refine rd_dget ?_
  | with_reducible refine rd_din ?_
  | with_reducible refine rd_dget2 ?_
  | with_reducible refine rd_dput ?_
  | with_reducible refine rd_disp ?_
  | with_reducible refine rd_pcons ?_
  | with_reducible refine rd_pnil ?_
  | with_reducible refine rd_dcL ?_
  | with_reducible refine rd_lcEn ?_
  | with_reducible refine rd_yS ?_
  | with_reducible refine rd_m1 ?_
  | with_reducible refine rd_meth ?_
  | with_reducible refine rd_fld ?_
  | with_reducible refine rd_sfld ?_
  | with_reducible refine rd_make ?_
  | with_reducible refine rd_fmt ?_
  | with_reducible refine rd_js ?_
  | with_reducible refine rd_js0 ?_
  | with_reducible refine iteT ?_
  | with_reducible refine iteF ?_
  | ((with_reducible refine isi_int (d := ?d1) (N := ?n1) ?h1 ?_); (case h1 => assumption))
  | ((with_reducible refine isi_bool (d := ?d1) (N := ?n1) ?h1 ?_); (case h1 => assumption))
  | ((with_reducible refine isi_str (d := ?d1) (N := ?n1) ?h1 ?_); (case h1 => assumption))
  | ((with_reducible refine isi_tuple (d := ?d1) (N := ?n1) ?h1 ?_); (case h1 => assumption))
  | with_reducible refine isi_str (N := fun _ => True) (Da.str _) ?_
  | with_reducible refine isi_int (N := fun _ => True) (Da.int _) ?_
  | with_reducible refine isi_bool (N := fun _ => True) (Da.int _) ?_
  | with_reducible refine isi_str (N := fun _ => True) (Da.int _) ?_
  | ((with_reducible show (wipe _ _ = wipe _ _) ∧ _); refine ⟨rfl, ?_⟩)
  | ((with_reducible show Ends.nx _ _ _); dsimp only)
  | ((with_reducible show Ends.rt _ _ _); dsimp only)
  | ((with_reducible show Ends.ct _ _ _); dsimp only)
  | ((with_reducible refine rd_ixT (xs := ?x1) (v := ?v1) ?h1 ?e1 ?_); (case h1 => walk_at "hp"); (case e1 => rfl))
  | ((with_reducible refine rd_ixL (xs := ?x1) (v := ?v1) ?h1 ?e1 ?_); (case h1 => walk_at "hp"); (case e1 => rfl))
  | ((with_reducible refine rd_lenT (xs := ?x1) ?h1 ?_); (case h1 => walk_at "hp"))
  | ((with_reducible refine rd_lenL (xs := ?x1) ?h1 ?_); (case h1 => walk_at "hp"))
  | ((with_reducible refine rd_tupOf (xs := ?x1) ?h1 ?_); (case h1 => walk_at "hp"))
  | ((with_reducible refine rd_all (bs := ?x1) ?h1 ?_); (case h1 => walk_at "hp"))
  | ((with_reducible refine rd_atT (xs := ?x1) ?h1 ?_); (case h1 => walk_at "hp"))
  | ((with_reducible refine rd_atL (xs := ?x1) ?h1 ?_); (case h1 => walk_at "hp"))
  | ((with_reducible refine rd_gtup (xs := ?x1) ?h1 ?e1 ?_); (case h1 => walk_at "hp"); (case e1 => rfl))
  | ((with_reducible refine rd_atEn (xs := ?x1) ?h1 ?_); (case h1 => walk_at "hp"))
  | ((with_reducible refine rd_slT (xs := ?x1) ?h1 ?_); (case h1 => walk_at "hp"))
  | ((with_reducible refine rd_slL (xs := ?x1) ?h1 ?_); (case h1 => walk_at "hp"))
  | ((with_reducible refine rd_inN (N := ?x1) ?h1 ?_); (case h1 => walk_at "hp"))
  | ((with_reducible refine rd_inL (N := ?x1) ?h1 ?_); (case h1 => walk_at "hp"))
  | ((with_reducible refine rd_notInN (N := ?x1) ?h1 ?_); (case h1 => walk_at "hp"))
  | ((with_reducible refine rd_notInL (N := ?x1) ?h1 ?_); (case h1 => walk_at "hp"))
  | with_reducible refine rd_tm ?_
  | ((with_reducible refine rd_isF (xs := ?x1) ?h1 ?_); (case h1 => walk_at "fz"))
  | ((with_reducible refine rd_lenTq (xs := ?x1) ?h1 ?_); (case h1 => walk_at "sq"))
  | ((with_reducible refine rd_atTq (xs := ?x1) ?h1 ?_); (case h1 => walk_at "sq"))
  | ((with_reducible refine rd_atEnq (xs := ?x1) ?h1 ?_); (case h1 => walk_at "sq"))
  | ((with_reducible refine rd_slTq (xs := ?x1) ?h1 ?_); (case h1 => walk_at "sq"))
  | ((with_reducible refine rd_inNq (N := ?x1) ?h1 ?_); (case h1 => walk_at "sq"))
  | ((with_reducible refine rd_setL (xs := ?x1) (j := ?j1) ?h1 ?e1 ?_); (case h1 => walk_at "hp"); (case e1 => rfl))
  | with_reducible refine rd_int1 ?_
  | with_reducible refine rd_x1 ?_
  | with_reducible refine rd_x2 ?_
  | ((with_reducible refine rd_tyL (xs := ?x1) ?h1 ?_); (case h1 => walk_at "hp"))
  | ((with_reducible refine rd_ixsL (xs := ?x1) (v := ?v1) ?h1 ?e1 ?_); (case h1 => walk_at "hp"); (case e1 => rfl))
  | ((with_reducible refine rd_ixsT (xs := ?x1) (v := ?v1) ?h1 ?e1 ?_); (case h1 => walk_at "hp"); (case e1 => rfl))
  | ((with_reducible refine rd_I ?c1 ?_); (case c1 => walk_at "ic"))
  | ((with_reducible refine if_t ?hb1 ?_); (case hb1 => rfl))
  | ((with_reducible refine if_f ?hb1 ?_); (case hb1 => rfl)))
local macro_rules | `(tactic| walk_at "go") => `(tactic| repeat (first | walk_at "st" | dsimp only))
local macro_rules | `(tactic| walk_at "gs") => `(tactic| repeat (first | ((fail_if_success (with_reducible refine rd_seq ?_)); (first | walk_at "st" | dsimp only))))
section
variable {P : Program} {w : World} {K : Frag} {mg : Str → Option Value} {base : Heap}

structure One (N : List Str) (R : List Rl) (H : Hp) (q : Addr) (ns : List Int) : Prop where
  at_ : H q = some (.tup (ns.map V.int))
  len : ns.length = N.length
  good : goodB N R (.tuple (ns.map PyData.int)) = true
  bd : ∀ x ∈ ns, -400000 ≤ x ∧ x ≤ 400000
structure Two (N : List Str) (H : Hp) (q : Addr) (ns : List Int) : Prop where
  at_ : H q = some (.tup (ns.map V.int))
  len : ns.length = N.length
theorem One.tk {N : List Str} {R : List Rl} {H H' : Hp} {q : Addr} {ns : List Int} (h : One N R H q ns) (t : TK H H') : One N R H' q ns := ⟨t _ _ h.at_, h.len, h.good, h.bd⟩
theorem Two.tk {N : List Str} {H H' : Hp} {q : Addr} {ns : List Int} (h : Two N H q ns) (t : TK H H') : Two N H' q ns := ⟨t _ _ h.at_, h.len⟩
/-- the claim's certificate has the right form -/
structure Pr (N : List Str) (R : List Rl) (F : Addr) (H : Hp) (v12 v13 : V) (d2 d : PyData) (a b : Addr) (t : Str) (v1 : V) (e : PyData) : Prop where
  v12 : v12 = .ref a
  at12 : H a = some (.tup [.str t, v1])
  da : Da (· ≠ F) H v1 e
  d : d = .tuple [.str t, e]
  bd : ∀ ds, e = .tuple ds → ds.length ≤ 1000
  v13 : v13 = .ref b
  at13 : H b = some (.tup ((numsOf d2).map V.int))
  len : (numsOf d2).length = N.length
  good : goodB N R d2 = true
theorem Pr.same {N : List Str} {R : List Rl} {F : Addr} {H H' : Hp} {v12 v13 : V} {d2 d : PyData} {a b : Addr} {t : Str} {v1 : V} {e : PyData} (h : Pr N R F H v12 v13 d2 d a b t v1 e) (s : Same H H') : Pr N R F H' v12 v13 d2 d a b t v1 e :=
  ⟨h.v12, s _ _ h.at12, h.da.same s, h.d, h.bd, h.v13, s _ _ h.at13, h.len, h.good⟩
abbrev N_L_right : List Str := ["_law_flask_here", "_law_lap", "_law_shape_here", "_law_table_here", "_law_page_here", "_law_hoops", "_law_nulls", "_law_spots", "_law_turn", "_law_one", "_law_two", "_law_tag", "_law_paper", "_law_mate", "_law_due", "_law_k", "_law_said", "_law_steps_here"]
theorem sc_L_right : FnScope N_L_right ["_law_flask_here"] (defScope s_L_right) := ⟨rfl, rfl, rfl, by decide +kernel, rfl, by decide +kernel, by decide +kernel⟩
def sp_right : Sp := fun vs H Q _ => ∃ F, vs = [.ref F] ∧ Fl H F ∧ ∀ H', FK F H H' → Q (.bl true) H'
theorem c_L_right (S : Sys K mg) : CalG P w K mg base 9 "_law_right" sp_right := by
  refine calG S.f_D_L_right S.g_L_right sc_L_right (fun _ _ _ _ _ _ us hl => match us, hl with | [_], _ => rfl) ?_ ?_
  · rintro vs H Q E ⟨_, rfl, _⟩
    rfl
  · rintro cdv A outer s H vs Q E gd hr ⟨F, rfl, fl, qq⟩
    refine ⟨_, pss_cons (ps_for PassesOwn.never rfl (pi_range1 (by rfl) S.n_range (pa_cons pe_int pa_nil)) (pg_name (i := 1) sc_L_right.nd rfl (Or.inl rfl))
        (pss_cons (ps_asg (C8.pe_c (c_L_full_shape (K := K) S) hr (by decide) rfl (pa_cons (pv 0) (pa_cons pe_int (pa_cons pe_int pa_nil)))) (pg_tupC (K := K) rfl rfl (pgs_cons (pg_name (i := 2) sc_L_right.nd rfl (Or.inr rfl)) (pgs_cons (pg_name (i := 3) sc_L_right.nd rfl (Or.inl rfl)) pgs_nil))))
      (pss_cons (ps_if (pt_not (pt_val (C8.pe_c (c_L_has (K := K) S) hr (by decide) rfl (pa_cons (pv 2) (pa_cons (pv 3) pa_nil))))) (pss_one ps_continue) pss_nil)
      (pss_cons (ps_par (i := 4) (j := 5) (by rfl) sc_L_right.nd rfl rfl (by decide) rfl rfl (pa_cons (C8.pe_c (c_L_page (K := K) S) hr (by decide) rfl (pa_cons (pv 2) pa_nil)) (pa_cons (C8.pe_c (c_L_rings (K := K) S) hr (by decide) rfl (pa_cons (pv 2) pa_nil)) pa_nil)) (by rfl))
      (pss_cons (ps_setLc (i := 6) (own := [("_law_spots", 7)]) (g := gName 7) rfl sc_L_right.nd rfl rfl (sw_true rfl rfl rfl (by decide +kernel)) (pi_listC (K := K) rfl (pv 5)) (blkOk_by (N := N_L_right) (sc := defScope s_L_right) (by decide +kernel)) (fun _ _ _ _ _ => (pg_name (i := 7) sc_L_right.nd rfl (Or.inl rfl))) (fun _ _ _ _ _ => pts_one (pt_cmpR op_eq (C8.pe_c (c_L_ring_sum (K := K) S) hr (by decide) rfl (pa_cons (pv 2) (pa_cons (pv 7) pa_nil))) pe_int (nomark _))) (fun _ _ _ _ _ => (pv 7)))
      (pss_one (ps_for PassesOwn.never rfl (pi_range1 (by rfl) S.n_range (pa_cons pe_int pa_nil)) (pg_name (i := 8) sc_L_right.nd rfl (Or.inl rfl))
        (pss_cons (ps_par (i := 9) (j := 10) (by rfl) sc_L_right.nd rfl rfl (by decide) rfl rfl (pa_cons (C8.pe_c (c_L_some_fill (K := K) S) hr (by decide) rfl (pa_cons (pv 0) (pa_cons (pv 2) (pa_cons (pv 3) pa_nil)))) (pa_cons (C8.pe_c (c_L_some_fill (K := K) S) hr (by decide) rfl (pa_cons (pv 0) (pa_cons (pv 2) (pa_cons (pv 3) pa_nil)))) pa_nil)) (by rfl))
      (pss_cons (ps_set (i := 7) sc_L_right.nd rfl (Or.inl rfl) (C8.pe_c (c_L_of (K := K) S) hr (by decide) rfl (pa_cons (pv 0) (pa_cons (pe_op op_cat (pe_op op_cat (pv 5) (pe_op op_rep (pv 6) pe_int)) (pe_lst (pa_cons (pe_tup (pa_cons pe_int (pa_cons pe_int pa_nil))) pa_nil))) pa_nil))))
      (pss_cons (ps_set (i := 11) sc_L_right.nd rfl (Or.inl rfl) (C8.pe_c (c_L_of (K := K) S) hr (by decide) rfl (pa_cons (pv 0) (pa_cons (pe_op (op_catAC (K := K) rfl) (pe_op (op_catAC (K := K) rfl) (C8.pe_c (c_L_differ (K := K) S) hr (by decide) rfl (pa_cons (pv 2) (pa_cons (pv 9) (pa_cons (pv 10) pa_nil)))) (pe_ix (ix_tupC (K := K) rfl) (pv 2) pe_int (fun _ _ => rfl))) (pe_tup (pa_cons pe_str pa_nil))) pa_nil))))
      (pss_cons (ps_if (pt_cmpR op_eq (C8.pe_c (c_L_drop (K := K) S) hr (by decide) rfl (pa_cons (pv 0) (pa_cons pe_int pa_nil))) pe_int (nomark _)) (pss_one (ps_set (i := 7) sc_L_right.nd rfl (Or.inl rfl) (C8.pe_c (c_L_bent_spots (K := K) S) hr (by decide) rfl (pa_cons (pv 0) (pa_cons (pv 7) (pa_cons (pe_callB (call_len_seqC (K := K) rfl) (by rfl) S.n_len (by decide +kernel) (pa_cons (pe_ix (ix_tupC (K := K) rfl) (pv 2) pe_int (fun _ _ => rfl)) pa_nil)) pa_nil)))))) pss_nil)
      (pss_cons (ps_set (i := 12) sc_L_right.nd rfl (Or.inl rfl) (C8.pe_c (c_L_of (K := K) S) hr (by decide) rfl (pa_cons (pv 0) (pa_cons (pe_op op_cat (pe_op op_rep (pe_lst (pa_cons (pe_tup (pa_cons (pv 11) (pa_cons (pv 7) pa_nil))) pa_nil)) pe_int) (pe_lst (pa_cons (pe_tup (pa_cons (pv 7) (pa_cons (pv 11) pa_nil))) (pa_cons (pe_lst (pa_cons (pv 11) (pa_cons (pv 7) pa_nil))) (pa_cons (pv 7) (pa_cons (pe_tup (pa_cons (pv 11) (pa_cons (pv 7) (pa_cons pe_int pa_nil)))) (pa_cons (pv 11) pa_nil))))))) pa_nil))))
      (pss_cons (ps_set (i := 13) sc_L_right.nd rfl (Or.inl rfl) (C8.pe_c (c_L_of (K := K) S) hr (by decide) rfl (pa_cons (pv 0) (pa_cons (pe_op op_cat (pe_op op_rep (pe_lst (pa_cons (pv 10) pa_nil)) pe_int) (pe_lst (pa_cons (pe_callTy (call_list_ofC (K := K) rfl) (by rfl) S.n_list (by decide +kernel) (pa_cons (pv 10) pa_nil)) (pa_cons (pe_slice (sl_tupAC (K := K) rfl) (pv 10) po_none (po_some (pe_un un_neg pe_int))) (pa_cons pe_non (pa_cons (pe_op (op_rep1 (K := K) rfl) (pe_tup (pa_cons (pe_op op_pow pe_int pe_int) pa_nil)) (pe_callB (call_len_seqC (K := K) rfl) (by rfl) S.n_len (by decide +kernel) (pa_cons (pv 10) pa_nil))) pa_nil)))))) pa_nil))))
      (pss_cons (ps_set (i := 14) sc_L_right.nd rfl (Or.inl rfl) (pe_and (C8.pe_c (c_L_is_good (K := K) S) hr (by decide) rfl (pa_cons (pv 2) (pa_cons (pv 13) pa_nil))) (pe_and (pe_callB (call_isiC (K := K) rfl) (by rfl) S.n_isinstance (by decide +kernel) (pa_cons (pv 12) (pa_cons (pe_bltn (v := .ty "tuple") (by rfl) S.n_tuple (by decide +kernel) rfl) pa_nil))) (pe_and (pe_cmpR op_eq (pe_callB (call_len_seqC (K := K) rfl) (by rfl) S.n_len (by decide +kernel) (pa_cons (pv 12) pa_nil)) pe_int (nomark _)) (pe_one (pe_callB (call_isiC (K := K) rfl) (by rfl) S.n_isinstance (by decide +kernel) (pa_cons (pe_ix (ix_tupC (K := K) rfl) (pv 12) pe_int (fun _ _ => rfl)) (pa_cons (pe_bltn (v := .ty "str") (by rfl) S.n_str (by decide +kernel) rfl) pa_nil))))))))
      (pss_cons (ps_set (i := 14) sc_L_right.nd rfl (Or.inl rfl) (pe_and (pv 14) (pe_and (pe_cmpR (op_in_seqC (K := K) rfl) (pe_ix (ix_tupC (K := K) rfl) (pv 12) pe_int (fun _ _ => rfl)) (C8.pe_c (c_L_differ (K := K) S) hr (by decide) rfl (pa_cons (pv 2) (pa_cons (pv 9) (pa_cons (pv 13) pa_nil)))) rfl) (pe_one (pe_cmpR op_eq (C8.pe_c (c_L_ring_sum (K := K) S) hr (by decide) rfl (pa_cons (pv 2) (pa_cons (pe_ix (ix_tupC (K := K) rfl) (pv 12) pe_int (fun _ _ => rfl)) pa_nil))) pe_int (nomark _))))))
      (pss_cons (ps_set (i := 14) sc_L_right.nd rfl (Or.inl rfl) (pe_and (pv 14) (pe_one (pe_cmpR (op_in_seqC (K := K) rfl) (pe_ix (ix_tupC (K := K) rfl) (pv 12) pe_int (fun _ _ => rfl)) (pe_lc (own := [("_law_k", 15)]) (g := gName 15) (tt := tYes) rfl sc_L_right.nd (pi_tupC (K := K) rfl (pe_ix (ix_tupC (K := K) rfl) (pv 12) pe_int (fun _ _ => rfl))) (blkOk_by (N := N_L_right) (sc := defScope s_L_right) (by decide +kernel)) (fun _ _ _ _ _ => (pg_name (i := 15) sc_L_right.nd rfl (Or.inl rfl))) (fun _ _ _ _ _ => pts_nil) (fun _ _ _ _ _ => (pe_ix (ix_tupC (K := K) rfl) (C8.pe_c (c_L_ends (K := K) S) hr (by decide) rfl (pa_cons (pe_ix (ix_tupC (K := K) rfl) (pe_ix (ix_tupC (K := K) rfl) (pv 2) pe_int (fun _ _ => rfl)) (pv 15) (fun _ _ => rfl)) pa_nil)) pe_int (fun _ _ => rfl)))) rfl))))
      (pss_cons (ps_set (i := 16) sc_L_right.nd rfl (Or.inl rfl) (pe_tup (pa_cons pe_str (pa_cons (pv 4) (pa_cons (pv 9) (pa_cons (pv 13) pa_nil))))))
      (pss_cons (ps_if (pt_cmpR op_ne (pe_callB (call_rep2 (K := K) rfl gd hr.units) (by rfl) S.n_repr (by decide +kernel) (pa_cons (pe_lst (pa_cons (C8.pe_c (c_holds_claim (K := K) S) hr (by decide) rfl (pa_cons (pv 16) (pa_cons (pv 12) pa_nil))) (pa_cons (pe_hcKw S hr (by decide) rfl (pk_cons (pv 12) (pk_cons (pv 16) pk_nil))) pa_nil))) pa_nil)) (pe_callB (call_rep2 (K := K) rfl gd hr.units) (by rfl) S.n_repr (by decide +kernel) (pa_cons (pe_lst (pa_cons (pv 14) (pa_cons (pv 14) pa_nil))) pa_nil)) (nomark _)) (pss_one (ps_ret pe_bl)) pss_nil)
      (pss_cons (ps_if (PW.pt (pw_and (pt_val (pv 14)) (pw_and1 (pt_val (C8.pe_c (c_L_are_akin (K := K) S) hr (by decide) rfl (pa_cons (pv 2) (pa_cons (pv 9) (pa_cons (pv 13) pa_nil)))))))) (pss_one (ps_ret pe_bl)) pss_nil)
      (pss_cons (ps_set (i := 17) sc_L_right.nd rfl (Or.inl rfl) (C8.pe_c (c_L_some_steps (K := K) S) hr (by decide) rfl (pa_cons (pv 0) (pa_cons (pv 2) (pa_cons (pv 9) (pa_cons pe_int pa_nil))))))
      (pss_one (ps_if (PW.pt (pw_and (pt_val (pv 14)) (pw_and1 (pt_cmpR (op_eqDC (K := K) rfl hr.units) (C8.pe_c (c_L_behind (K := K) S) hr (by decide) rfl (pa_cons (pv 2) (pa_cons (pv 9) (pa_cons (pv 17) pa_nil)))) (pv 13) (nomark _))))) (pss_one (ps_ret pe_bl)) pss_nil))))))))))))))))))))))
      (pss_one (ps_ret pe_bl)), ?_⟩
    refine seq_cut (fun _ H' => FK F H H') (fun Nx hN => ?_) fun σ H3 k3 => by
      walk_at "go"
      exact qq _ k3
    walk_at "gs"
    refine ⟨by decide, by decide, ?_⟩
    refine forW (n := 3) walk_r0 (fun _ σ H3 => ∃ x1 x2 x3 x4 x5 x6 x7 x8 x9 x10 x11 x12 x13 x14 x15 x16 x17, σ = [some (.ref F), x1, x2, x3, x4, x5, x6, x7, x8, x9, x10, x11, x12, x13, x14, x15, x16, x17] ∧ FK F H H3)
      ⟨_, _, _, _, _, _, _, _, _, _, _, _, _, _, _, _, _, rfl, FK.refl fl⟩ (fun _ _ _ _ _ => trivial) (fun lap x σ H3 H3' hlap ⟨x1, x2, x3, x4, x5, x6, x7, x8, x9, x10, x11, x12, x13, x14, x15, x16, x17, eσ, k3⟩ hY => ?_) fun σ H3 ⟨x1, x2, x3, x4, x5, x6, x7, x8, x9, x10, x11, x12, x13, x14, x15, x16, x17, eσ, k3⟩ => hN _ _ k3
    clear hN
    obtain ⟨rfl, rfl⟩ := hY
    subst eσ
    walk_at "gs"
    refine seq_cut (fun σ H4 => ∃ p D, ∃ N : List Str, ∃ R : List Rl, σ = [some (.ref F), some (.int (lap : Nat)), some (.ref p), some (.ref D), x4, x5, x6, x7, x8, x9, x10, x11, x12, x13, x14, x15, x16, x17] ∧ FK F H3' H4 ∧ ShapeAt H4 p N R ∧ FormOk N R ∧ DT H4 D (tabF N R) 1000) (fun Nx hN => ?_) ?_
    · walk_at "go"
      refine ⟨F, rfl, k3.fl, fun H4 q p D N R k34 eq sh fo dt => ?_⟩
      walk_at "go"
      exact hN _ _ ⟨p, D, N, R, rfl, k34, sh, fo, dt⟩
    rintro _ H4 ⟨p, D, N, R, rfl, k34, sh, fo, dt⟩
    have k4 := k3.trans k34
    have n5 := fo.n5
    refine seq_cut (fun σ H5 => σ = [some (.ref F), some (.int (lap : Nat)), some (.ref p), some (.ref D), x4, x5, x6, x7, x8, x9, x10, x11, x12, x13, x14, x15, x16, x17] ∧ Same H4 H5 ∧ hasB N (tabF N R) = true) (fun Nx hN => ?_) ?_
    · walk_at "go"
      refine ⟨p, D, 1000, N, R, tabF N R, rfl, sh, n5, dt, tab_diag N R, fun H5 s5 => ?_⟩
      generalize eb : hasB N (tabF N R) = hb0 at hN
      walk_at "go"
      refine ifb (fun hb => ?_) fun hb => ?_
      · walk_at "go"
        exact ⟨_, _, _, _, _, _, _, _, _, _, _, _, _, _, _, _, _, rfl, k4.same s5⟩
      walk_at "go"
      exact hN _ _ ⟨rfl, s5, by simpa using hb⟩
    rintro _ H5 ⟨rfl, s5, hb⟩
    have k5 := k4.same s5
    have dg : ∀ a ∈ eS :: N, tabF N R a a = some 0 := fun a ha => of_decide_eq_true (List.all_eq_true.mp hb a ha)
    have tk := tab_ok fo dg
    have sh5 := sh.tk (Same.tk s5)
    have dt5 := dt.same s5
    refine seq_cut (fun σ H7 => ∃ Lh, ∃ hs : List Addr, σ = [some (.ref F), some (.int (lap : Nat)), some (.ref p), some (.ref D), some (.str (pageS N R)), some (.ref Lh), x6, x7, x8, x9, x10, x11, x12, x13, x14, x15, x16, x17] ∧ Same H5 H7 ∧ H7 Lh = some (.lst (hs.map V.ref)) ∧ (∀ a ∈ hs, SpAt R.length 8 H7 a) ∧ hs.length ≤ 3188646) (fun Nx hN => ?_) ?_
    · walk_at "go"
      refine ⟨p, N, R, rfl, sh5, fo, fun H6 s6 => ?_⟩
      have sh6 := sh5.tk (Same.tk s6)
      walk_at "go"
      refine ⟨p, N, R, rfl, sh6, n5, fo.r9, fun H7 Lh hs s7 _ eLh hsp hlen => ?_⟩
      walk_at "go"
      exact hN _ _ ⟨Lh, hs, rfl, s6.trans s7, eLh, hsp, hlen⟩
    rintro _ H7 ⟨Lh, hs, rfl, s57, eLh, hsp, hlen⟩
    have sh7 := sh5.tk (Same.tk s57)
    have k7 := k5.same s57
    have dt7 := dt5.same s57
    refine seq_cut (fun σ H8 => ∃ Ln, ∃ bs : List Addr, ∃ x7, σ = [some (.ref F), some (.int (lap : Nat)), some (.ref p), some (.ref D), some (.str (pageS N R)), some (.ref Lh), some (.ref Ln), x7, x8, x9, x10, x11, x12, x13, x14, x15, x16, x17] ∧ Same H7 H8 ∧ H8 Ln = some (.lst (bs.map V.ref)) ∧ Ln ≠ F ∧ (∀ a ∈ bs, SpAt R.length 8 H8 a) ∧ bs.length ≤ hs.length) (fun Nx hN => ?_) ?_
    · walk_at "go"
      refine lcW (n := hs.length) (G := fun H => SqL K H Lh (hs.map V.ref)) (Y := YAt (hs.map V.ref)) (List.length_map (as := hs) V.ref ▸ walk_list) (fun j acc H8 => ∃ bs : List Addr, acc = bs.map V.ref ∧ ∀ b ∈ bs, SpAt R.length 8 H8 b) (fun _ _ _ _ t ⟨bs, a, b⟩ => ⟨bs, a, fun x hx => (b x hx).tk t⟩)
        ⟨[], rfl, fun b h => absurd h List.not_mem_nil⟩ (Nat.le_trans hlen (by decide)) (fun H8 s => .inl (.inl (s _ _ eLh))) (fun j x acc H8 H8' hj s f _ hY Qy Qn hQ hQn => ?_) fun Ln H8 acc hLn s8 eLn f accl => ?_
      · obtain ⟨rfl, hx⟩ := hY
        obtain ⟨bs, rfl, fb⟩ := f
        rw [List.getElem?_map, List.getElem?_eq_getElem hj] at hx
        cases hx
        have sp8 := (hsp _ (List.getElem_mem hj)).tk (Same.tk s)
        generalize hs[j] = a at sp8
        obtain ⟨is, ea, i1, i8, ib⟩ := sp8
        walk_at "go"
        refine ⟨p, .ref a, N, R, fun _ => True, .tuple ((is.map Int.ofNat).map PyData.int), rfl, sh7.tk (Same.tk s), fo.r9, Da.tup ea DaAll.ints, fun ds z => by cases z; rw [List.length_map, List.length_map]; omega, fun H9 s9 => ?_⟩
        walk_at "go"
        have keep : Qn H9 := hQn _ s9 ⟨bs, rfl, fun b h => (fb b h).tk (Same.tk s9)⟩
        rcases ringV_or R (.tuple ((is.map Int.ofNat).map PyData.int)) with h | ⟨z, h⟩
        · rw [h]
          refine rd_eqN0 ?_
          walk_at "go"
          exact keep
        · rw [h]
          walk_at "go"
          refine ifb (fun _ => ?_) fun _ => ?_
          · walk_at "go"
            exact hQ _ _ s9 ⟨bs ++ [a], by rw [List.map_append] <;> rfl, fun b h => (List.mem_append.mp h).elim (fun h => (fb b h).tk (Same.tk s9)) fun h => by
              rw [List.mem_singleton.mp h]
              exact ⟨is, s9 _ _ ea, i1, i8, ib⟩⟩
          · exact keep
      obtain ⟨bs, rfl, fb⟩ := f
      rw [List.length_map] at accl
      walk_at "go"
      exact hN _ _ ⟨Ln, bs, _, rfl, s8, eLn, k7.fl.ne_new hLn, fb, accl⟩
    rintro _ H8 ⟨Ln, bs, x7, rfl, s8, eLn, nLn, fb, accl⟩
    have k8 := k7.same s8
    have sh8 := sh7.tk (Same.tk s8)
    have dt8 := dt7.same s8
    have nD : D ≠ F := by
      obtain ⟨kvs, e1, _⟩ := dt8
      obtain ⟨a, b, c, e2⟩ := k8.fl
      exact ne_of e1 e2 (by intro z; cases z)
    have eLh8 := s8 _ _ eLh
    have nLh : Lh ≠ F := by
      intro z
      obtain ⟨a, b, c, e2⟩ := k8.fl
      rw [z, e2] at eLh8
      have e3 := HO.lst.inj (Option.some.inj eLh8)
      cases hs with
      | nil => cases e3
      | cons _ _ => cases e3
    have hsp8 : ∀ a ∈ hs, SpAt R.length 8 H8 a := fun a h => (hsp a h).tk (Same.tk s8)
    obtain ⟨pf, pr, rs, gp, gf, gr, gR⟩ := sh8.ex
    have gl : (rs.map V.ref).length ≤ 9 := by
      rw [List.length_map, gR.1]
      exact fo.r9
    clear hsp eLh dt7 sh7 dt5 sh5 dg dt sh s5 s57 s8
    walk_at "gs"
    refine ⟨by decide, by decide, ?_⟩
    refine forW (n := 10) walk_r0 (fun _ σ H9 => ∃ x7 x8 x9 x10 x11 x12 x13 x14 x15 x16 x17, σ = [some (.ref F), some (.int (lap : Nat)), some (.ref p), some (.ref D), some (.str (pageS N R)), some (.ref Lh), some (.ref Ln), x7, x8, x9, x10, x11, x12, x13, x14, x15, x16, x17] ∧ FK F H8 H9)
      ⟨_, _, _, _, _, _, _, _, _, _, _, rfl, FK.refl k8.fl⟩ (fun _ _ _ _ _ => trivial) (fun turn x σ H9 H9' hturn ⟨x7, x8, x9, x10, x11, x12, x13, x14, x15, x16, x17, eσ, k9⟩ hY => ?_) fun σ H9 ⟨x7, x8, x9, x10, x11, x12, x13, x14, x15, x16, x17, eσ, k9⟩ => by
        subst eσ
        walk_at "go"
        exact ⟨_, _, _, _, _, _, _, _, _, _, _, _, _, _, _, _, _, rfl, k8.trans k9⟩
    obtain ⟨rfl, rfl⟩ := hY
    subst eσ
    walk_at "gs"
    refine seq_cut (fun σ H11 => ∃ q1 q2, ∃ ns ms : List Int, σ = [some (.ref F), some (.int (lap : Nat)), some (.ref p), some (.ref D), some (.str (pageS N R)), some (.ref Lh), some (.ref Ln), x7, some (.int (turn : Nat)), some (.ref q1), some (.ref q2), x11, x12, x13, x14, x15, x16, x17] ∧ FK F H8 H11 ∧ One N R H11 q1 ns ∧ Two N H11 q2 ms) (fun Nx hN => ?_) ?_
    · walk_at "go"
      refine ⟨F, p, D, 1000, N, R, tabF N R, rfl, k9.fl, sh8.tk (k9.tk k8.fl), fo, dt8.fk k9 nD, nD, tk, fun H10 q1 f1 k10 e1 z1 con1 b1 => ?_⟩
      have k10' := k9.trans k10
      walk_at "go"
      refine ⟨F, p, D, 1000, N, R, tabF N R, rfl, k10.fl, sh8.tk (k10'.tk k8.fl), fo, dt8.fk k10' nD, nD, tk, fun H11 q2 f2 k11 e2 z2 con2 b2 => ?_⟩
      walk_at "go"
      exact hN _ _ ⟨q1, q2, _, _, rfl, k10'.trans k11, ⟨k11.tup k10.fl e1, List.length_map _, good_of fo tk z1 con1 b1, fun x hx => by
        obtain ⟨y, hy, rfl⟩ := List.mem_map.mp hx
        exact b1 y hy⟩, ⟨e2, List.length_map _⟩⟩
    rintro _ H11 ⟨q1, q2, ns, ms, rfl, k11, one, two⟩
    clear k9
    have eLn11 := k11.get eLn nLn
    have eLh11 := k11.get eLh8 nLh
    refine seq_cut (fun σ H12 => ∃ a, ∃ is : List Int, σ = [some (.ref F), some (.int (lap : Nat)), some (.ref p), some (.ref D), some (.str (pageS N R)), some (.ref Lh), some (.ref Ln), some (.ref a), some (.int (turn : Nat)), some (.ref q1), some (.ref q2), x11, x12, x13, x14, x15, x16, x17] ∧ FK F H11 H12 ∧ H12 a = some (.tup (is.map V.int)) ∧ is.length ≤ 30) (fun Nx hN => ?_) ?_
    · walk_at "go"
      have accl2 : bs.length * 4 ≤ 12754584 := by omega
      refine ⟨Ln, 4, _, rfl, rfl, eLn11, by decide, by decide, by rw [List.length_map]; exact Nat.le_trans accl2 (by decide), fun p4 hp4 => ?_⟩
      have s_p4 := same_new (o := .lst (List.replicate (Int.toNat 4) (bs.map V.ref)).flatten) hp4
      have e_p4 : upd H11 p4 (.lst (List.replicate (Int.toNat 4) (bs.map V.ref)).flatten) p4 = some (.lst (List.replicate 4 (bs.map V.ref)).flatten) := upd_same
      generalize upd H11 p4 (.lst (List.replicate (Int.toNat 4) (bs.map V.ref)).flatten) = J1 at s_p4 e_p4
      walk_at "go"
      refine rd_catL (s_p4 _ _ eLh11) e_p4 (by rw [rep_len, List.length_map, List.length_map]; exact Nat.le_trans (Nat.add_le_add hlen (show 4 * bs.length ≤ 12754584 by omega)) (by decide)) fun p5 hp5 => ?_
      have s_p5 := same_new (o := .lst (hs.map V.ref ++ (List.replicate 4 (bs.map V.ref)).flatten)) hp5
      have e_p5 : upd J1 p5 (.lst (hs.map V.ref ++ (List.replicate 4 (bs.map V.ref)).flatten)) p5 = some (.lst (hs.map V.ref ++ (List.replicate 4 (bs.map V.ref)).flatten)) := upd_same
      generalize upd J1 p5 (.lst (hs.map V.ref ++ (List.replicate 4 (bs.map V.ref)).flatten)) = J2 at s_p5 e_p5
      walk_at "go"
      refine ⟨szc rfl, fun t1 ht1 => ?_⟩
      have s_t1 := same_new (o := .tup [.int 0, .int 1]) ht1
      have e_t1 : upd J2 t1 (.tup [.int 0, .int 1]) t1 = some (.tup [.int 0, .int 1]) := upd_same
      generalize upd J2 t1 (.tup [.int 0, .int 1]) = J3 at s_t1 e_t1
      walk_at "go"
      refine ⟨szc rfl, fun l1_ hl1_ => ?_⟩
      have s_l1_ := same_new (o := .lst [.ref t1]) hl1_
      have e_l1_ : upd J3 l1_ (.lst [.ref t1]) l1_ = some (.lst [.ref t1]) := upd_same
      generalize upd J3 l1_ (.lst [.ref t1]) = J4 at s_l1_ e_l1_
      have len5 : (hs.map V.ref ++ (List.replicate 4 (bs.map V.ref)).flatten).length ≤ 15943230 := by
        rw [List.length_append, rep_len, List.length_map, List.length_map]
        omega
      refine rd_catL (s_l1_ _ _ (s_t1 _ _ e_p5)) e_l1_ (Nat.le_trans (Nat.add_le_add_right len5 1) (by decide)) fun p6 hp6 => ?_
      have s_p6 := same_new (o := .lst ((hs.map V.ref ++ (List.replicate 4 (bs.map V.ref)).flatten) ++ [.ref t1])) hp6
      have e_p6 : upd J4 p6 (.lst ((hs.map V.ref ++ (List.replicate 4 (bs.map V.ref)).flatten) ++ [.ref t1])) p6 = some (.lst ((hs.map V.ref ++ (List.replicate 4 (bs.map V.ref)).flatten) ++ [.ref t1])) := upd_same
      generalize upd J4 p6 (.lst ((hs.map V.ref ++ (List.replicate 4 (bs.map V.ref)).flatten) ++ [.ref t1])) = J5 at s_p6 e_p6
      have s15 : Same H11 J5 := s_p4.trans (s_p5.trans (s_t1.trans (s_l1_.trans s_p6)))
      have k15 := (FK.refl k11.fl).same s15
      have np6 : p6 ≠ F := by
        intro z
        obtain ⟨a, b, c, e2⟩ := k15.fl
        rw [z, e2] at e_p6
        have e3 := congrArg List.reverse (HO.lst.inj (Option.some.inj e_p6))
        rw [List.reverse_append] at e3
        cases e3
      refine ⟨F, p6, _, rfl, k15.fl, .inl ⟨e_p6, np6⟩, List.append_ne_nil_of_right_ne_nil _ (List.cons_ne_nil _ _), Nat.lt_of_le_of_lt (by rw [List.length_append]; exact Nat.add_le_add_right len5 1) (by decide), fun H12 v k12 hv => ?_⟩
      have k12' := k15.trans k12
      have hsv : ∃ a, ∃ is : List Int, v = .ref a ∧ H12 a = some (.tup (is.map V.int)) ∧ is.length ≤ 30 := by
        have spv : ∀ a, SpAt R.length 8 H8 a → ∃ is : List Int, H12 a = some (.tup (is.map V.int)) ∧ is.length ≤ 30 := fun a h => by
          obtain ⟨is, ea, _, i8, _⟩ := h
          exact ⟨_, (k11.trans k12').tup k8.fl ea, by rw [List.length_map]; omega⟩
        rcases List.mem_append.mp hv with hv | hv
        · rcases List.mem_append.mp hv with hv | hv
          · obtain ⟨a, ha, rfl⟩ := List.mem_map.mp hv
            obtain ⟨is, h1, h2⟩ := spv a (hsp8 a ha)
            exact ⟨a, is, rfl, h1, h2⟩
          · obtain ⟨a, ha, rfl⟩ := List.mem_map.mp (rep_mem hv)
            obtain ⟨is, h1, h2⟩ := spv a (fb a ha)
            exact ⟨a, is, rfl, h1, h2⟩
        · rw [List.mem_singleton.mp hv]
          exact ⟨t1, [0, 1], rfl, k12.tup k15.fl (s_p6 _ _ (s_l1_ _ _ e_t1)), by decide⟩
      obtain ⟨a, is, rfl, ea, il⟩ := hsv
      walk_at "go"
      exact hN _ _ ⟨a, is, rfl, k12', ea, il⟩
    rintro _ H12 ⟨a, is, rfl, k12, ea, il⟩
    have one := one.tk (k12.tk k11.fl)
    have two := two.tk (k12.tk k11.fl)
    have k12' := k11.trans k12
    clear eLn11 eLh11 k11 k12
    refine seq_cut (fun σ H17 => ∃ t, σ = [some (.ref F), some (.int (lap : Nat)), some (.ref p), some (.ref D), some (.str (pageS N R)), some (.ref Lh), some (.ref Ln), some (.ref a), some (.int (turn : Nat)), some (.ref q1), some (.ref q2), some (.str t), x12, x13, x14, x15, x16, x17] ∧ FK F H12 H17) (fun Nx hN => ?_) ?_
    · have sh12 := sh8.tk (k12'.tk k8.fl)
      have gp12 := k12'.tup k8.fl gp
      have gf12 := k12'.tup k8.fl gf
      walk_at "go"
      refine ⟨p, q1, q2, N, R, ns, ms, rfl, sh12, n5, one.at_, two.at_, one.len, two.len, fun H13 pd s13 ed => ?_⟩
      have gp13 := s13 _ _ gp12
      walk_at "go"
      have dl : (diffL N ns ms).length ≤ 5 := Nat.le_trans (List.length_filterMap_le _ _) (Nat.le_trans (List.length_filter_le _ _) (by rw [List.length_range]; exact n5))
      refine rd_catT ed (s13 _ _ gf12) (sz (by rw [List.length_map, List.length_map]; omega)) fun p14 H14 s14 e14 => ?_
      walk_at "go"
      refine ⟨szc rfl, fun tz htz => ?_⟩
      have s_tz := same_new (o := .tup [.str (Str.ofString "zz")]) htz
      have e_tz : upd H14 tz (.tup [.str (Str.ofString "zz")]) tz = some (.tup [.str (Str.ofString "zz")]) := upd_same
      generalize upd H14 tz (.tup [.str (Str.ofString "zz")]) = H15 at s_tz e_tz
      refine rd_catT (s_tz _ _ e14) e_tz (sz (by rw [List.length_append, List.length_map, List.length_map]; show _ + _ + 1 ≤ _; omega)) fun p16 H16 s16 e16 => ?_
      have k16 : FK F H12 H16 := Same.fk k12'.fl (s13.trans (s14.trans (s_tz.trans s16)))
      refine ⟨F, p16, _, rfl, k16.fl, .inr e16, List.append_ne_nil_of_right_ne_nil _ (List.cons_ne_nil _ _), by rw [List.length_append, List.length_append, List.length_map, List.length_map]; exact Nat.lt_of_le_of_lt (m := 11) (by show _ + _ + 1 ≤ 11; omega) (by decide), fun H17 v k17 hv => ?_⟩
      obtain ⟨t, rfl⟩ : ∃ t, v = .str t := by
        rcases List.mem_append.mp hv with hv | hv
        · rcases List.mem_append.mp hv with hv | hv
          · obtain ⟨t, _, rfl⟩ := List.mem_map.mp hv
            exact ⟨t, rfl⟩
          · obtain ⟨t, _, rfl⟩ := List.mem_map.mp hv
            exact ⟨t, rfl⟩
        · exact ⟨_, List.mem_singleton.mp hv⟩
      walk_at "go"
      exact hN _ _ ⟨t, rfl, k16.trans k17⟩
    rintro _ H17 ⟨t, rfl, k17⟩
    have ea := k17.tup k12'.fl ea
    have one := one.tk (k17.tk k12'.fl)
    have two := two.tk (k17.tk k12'.fl)
    have k17' := k12'.trans k17
    clear k12'
    refine seq_cut (fun σ H' => ∃ v7, σ = [some (.ref F), some (.int (lap : Nat)), some (.ref p), some (.ref D), some (.str (pageS N R)), some (.ref Lh), some (.ref Ln), some v7, some (.int (turn : Nat)), some (.ref q1), some (.ref q2), some (.str t), x12, x13, x14, x15, x16, x17] ∧ FK F H17 H' ∧ DaS F H' v7) (fun Nx hN => ?_) ?_
    · walk_at "go"
      refine ⟨F, 3, rfl, by decide, by decide, k17.fl, fun H18 d k18 _ _ => ?_⟩
      have gp18 := (k17'.trans k18).tup k8.fl gp
      have gr18 := (k17'.trans k18).tup k8.fl gr
      have ea18 := k18.tup k17.fl ea
      walk_at "go"
      refine ifb (fun h => ?_) fun h => ?_
      · walk_at "go"
        refine ⟨F, a, (rs.map V.ref).length, is, rfl, k18.fl, ea18, il, gl, fun H19 v k19 dv => ?_⟩
        walk_at "go"
        exact hN _ _ ⟨v, rfl, k18.trans k19, dv⟩
      · walk_at "go"
        exact hN _ _ ⟨_, rfl, k18, DaS.tup ea18 AllDa.ints (by rw [List.length_map]; omega)⟩
    rintro _ H18 ⟨v7, rfl, k18, dv⟩
    have k18' := k17'.trans k18
    have one := one.tk (k18.tk k17.fl)
    have two := two.tk (k18.tk k17.fl)
    clear k17' ea
    refine seq_cut (fun σ H20 => ∃ v12, σ = [some (.ref F), some (.int (lap : Nat)), some (.ref p), some (.ref D), some (.str (pageS N R)), some (.ref Lh), some (.ref Ln), some v7, some (.int (turn : Nat)), some (.ref q1), some (.ref q2), some (.str t), some v12, x13, x14, x15, x16, x17] ∧ FK F H18 H20 ∧ DaP F H20 v12) (fun Nx hN => ?_) ?_
    · walk_at "go"
      refine ⟨szc rfl, fun u1 hu1 => ?_⟩
      have s_u1 := same_new (o := .tup [.str t, v7]) hu1
      have e_u1 : upd H18 u1 (.tup [.str t, v7]) u1 = some (.tup [.str t, v7]) := upd_same
      generalize upd H18 u1 (.tup [.str t, v7]) = I1 at s_u1 e_u1
      walk_at "go"
      refine ⟨szc rfl, fun u2 hu2 => ?_⟩
      have s_u2 := same_new (o := .lst [.ref u1]) hu2
      have e_u2 : upd I1 u2 (.lst [.ref u1]) u2 = some (.lst [.ref u1]) := upd_same
      generalize upd I1 u2 (.lst [.ref u1]) = I2 at s_u2 e_u2
      refine ⟨u2, 7, _, rfl, rfl, e_u2, by decide, by decide, (show 1 * 7 ≤ sizeLine by decide), fun u3 hu3 => ?_⟩
      have s_u3 := same_new (o := .lst (List.replicate (Int.toNat 7) [V.ref u1]).flatten) hu3
      have e_u3 : upd I2 u3 (.lst (List.replicate (Int.toNat 7) [V.ref u1]).flatten) u3 = some (.lst (List.replicate 7 [V.ref u1]).flatten) := upd_same
      generalize upd I2 u3 (.lst (List.replicate (Int.toNat 7) [V.ref u1]).flatten) = I3 at s_u3 e_u3
      walk_at "go"
      refine ⟨szc rfl, fun u4 hu4 => ?_⟩
      have s_u4 := same_new (o := .tup [v7, .str t]) hu4
      have e_u4 : upd I3 u4 (.tup [v7, .str t]) u4 = some (.tup [v7, .str t]) := upd_same
      generalize upd I3 u4 (.tup [v7, .str t]) = I4 at s_u4 e_u4
      walk_at "go"
      refine ⟨szc rfl, fun u5 hu5 => ?_⟩
      have s_u5 := same_new (o := .lst [.str t, v7]) hu5
      have e_u5 : upd I4 u5 (.lst [.str t, v7]) u5 = some (.lst [.str t, v7]) := upd_same
      generalize upd I4 u5 (.lst [.str t, v7]) = I5 at s_u5 e_u5
      walk_at "go"
      refine ⟨szc rfl, fun u6 hu6 => ?_⟩
      have s_u6 := same_new (o := .tup [.str t, v7, .int 0]) hu6
      have e_u6 : upd I5 u6 (.tup [.str t, v7, .int 0]) u6 = some (.tup [.str t, v7, .int 0]) := upd_same
      generalize upd I5 u6 (.tup [.str t, v7, .int 0]) = I6 at s_u6 e_u6
      walk_at "go"
      refine ⟨szc rfl, fun u7 hu7 => ?_⟩
      have s_u7 := same_new (o := .lst [.ref u4, .ref u5, v7, .ref u6, .str t]) hu7
      have e_u7 : upd I6 u7 (.lst [.ref u4, .ref u5, v7, .ref u6, .str t]) u7 = some (.lst [.ref u4, .ref u5, v7, .ref u6, .str t]) := upd_same
      generalize upd I6 u7 (.lst [.ref u4, .ref u5, v7, .ref u6, .str t]) = I7 at s_u7 e_u7
      have s37 : Same I3 I7 := s_u4.trans (s_u5.trans (s_u6.trans s_u7))
      have s07 : Same H18 I7 := s_u1.trans (s_u2.trans (s_u3.trans s37))
      have nu5 : u5 ≠ F := (k18.same (s_u1.trans (s_u2.trans (s_u3.trans s_u4)))).fl.ne_new hu5
      refine rd_catL (s37 _ _ e_u3) e_u7 (by rw [rep_len]; exact Nat.le_of_ble_eq_true rfl) fun u8 hu8 => ?_
      have nu8 : u8 ≠ F := (k18.same s07).fl.ne_new hu8
      have s_u8 := same_new (o := .lst ((List.replicate 7 [V.ref u1]).flatten ++ [.ref u4, .ref u5, v7, .ref u6, .str t])) hu8
      have e_u8 : upd I7 u8 (.lst ((List.replicate 7 [V.ref u1]).flatten ++ [.ref u4, .ref u5, v7, .ref u6, .str t])) u8 = some (.lst ((List.replicate 7 [V.ref u1]).flatten ++ [.ref u4, .ref u5, v7, .ref u6, .str t])) := upd_same
      generalize upd I7 u8 (.lst ((List.replicate 7 [V.ref u1]).flatten ++ [.ref u4, .ref u5, v7, .ref u6, .str t])) = I8 at s_u8 e_u8
      have s08 : Same H18 I8 := s07.trans s_u8
      have kI8 : FK F H18 I8 := Same.fk k18.fl s08
      refine ⟨F, u8, _, rfl, kI8.fl, .inl ⟨e_u8, nu8⟩, List.append_ne_nil_of_right_ne_nil _ (List.cons_ne_nil _ _), by rw [List.length_append, rep_len]; exact Nat.le_of_ble_eq_true rfl, fun H20 v12 k20 hv => ?_⟩
      have dp8 : DaP F I8 v12 := by
        have dv1 := dv.same s08
        have e4 := (s_u5.trans (s_u6.trans (s_u7.trans s_u8))) _ _ e_u4
        have e5 := (s_u6.trans (s_u7.trans s_u8)) _ _ e_u5
        have e6 := (s_u7.trans s_u8) _ _ e_u6
        have eu1 := (s_u2.trans (s_u3.trans (s37.trans s_u8))) _ _ e_u1
        rcases List.mem_append.mp hv with hv | hv
        · rw [List.mem_singleton.mp (rep_mem hv)]
          exact dv1.pair eu1
        · simp only [List.mem_cons, List.not_mem_nil, or_false] at hv
          rcases hv with rfl | rfl | rfl | rfl | rfl
          · exact dv1.riap e4
          · exact dv1.lst2 e5 nu5
          · exact dv1.paper
          · exact dv1.three e6
          · exact .str
      walk_at "go"
      exact hN _ _ ⟨v12, rfl, kI8.trans k20, dp8.fk k20 kI8.fl⟩
    rintro _ H20 ⟨v12, rfl, k20, dp20⟩
    have k20' := k18'.trans k20
    have one := one.tk (k20.tk k18.fl)
    have two := two.tk (k20.tk k18.fl)
    clear dv k18'
    refine seq_cut (fun σ H21 => ∃ v13, σ = [some (.ref F), some (.int (lap : Nat)), some (.ref p), some (.ref D), some (.str (pageS N R)), some (.ref Lh), some (.ref Ln), some v7, some (.int (turn : Nat)), some (.ref q1), some (.ref q2), some (.str t), some v12, some v13, x14, x15, x16, x17] ∧ FK F H20 H21 ∧ DaM F H21 v13) (fun Nx hN => ?_) ?_
    · have e2 := two.at_
      have l2 := two.len
      have n1 := fo.n1
      walk_at "go"
      refine ⟨szc rfl, fun w1 hw1 => ?_⟩
      have s_w1 := same_new (o := .lst [.ref q2]) hw1
      have e_w1 : upd H20 w1 (.lst [.ref q2]) w1 = some (.lst [.ref q2]) := upd_same
      generalize upd H20 w1 (.lst [.ref q2]) = G1 at s_w1 e_w1
      refine ⟨w1, 6, _, rfl, rfl, e_w1, by decide, by decide, (show 1 * 6 ≤ sizeLine by decide), fun w2 hw2 => ?_⟩
      have s_w2 := same_new (o := .lst (List.replicate (Int.toNat 6) [V.ref q2]).flatten) hw2
      have e_w2 : upd G1 w2 (.lst (List.replicate (Int.toNat 6) [V.ref q2]).flatten) w2 = some (.lst (List.replicate 6 [V.ref q2]).flatten) := upd_same
      generalize upd G1 w2 (.lst (List.replicate (Int.toNat 6) [V.ref q2]).flatten) = G2 at s_w2 e_w2
      have e2_2 := s_w2 _ _ (s_w1 _ _ e2)
      walk_at "go"
      intro w3 hw3
      have s_w3 := same_new (o := .lst (ms.map V.int)) hw3
      have e_w3 : upd G2 w3 (.lst (ms.map V.int)) w3 = some (.lst (ms.map V.int)) := upd_same
      generalize upd G2 w3 (.lst (ms.map V.int)) = G3 at s_w3 e_w3
      have nw3 : w3 ≠ F := (k20.same (s_w1.trans s_w2)).fl.ne_new hw3
      have e2_3 := s_w3 _ _ e2_2
      walk_at "go"
      intro w4 G4 s_w4 e_w4
      have e2_4 := s_w4 _ _ e2_3
      walk_at "go"
      refine ⟨szc rfl, fun w5 hw5 => ?_⟩
      have s_w5 := same_new (o := .tup [.int (10 ^ Int.toNat 9)]) hw5
      have e_w5 : upd G4 w5 (.tup [.int (10 ^ Int.toNat 9)]) w5 = some (.tup [.int (10 ^ Int.toNat 9)]) := upd_same
      generalize upd G4 w5 (.tup [.int (10 ^ Int.toNat 9)]) = G5 at s_w5 e_w5
      have e2_5 := s_w5 _ _ e2_4
      walk_at "go"
      refine ⟨w5, _, _, rfl, rfl, e_w5, List.cons_ne_nil _ _, by rw [List.length_map]; omega, by rw [List.length_map]; omega, by decide, fun w6 G6 s_w6 e_w6 => ?_⟩
      rw [rep_ints] at e_w6
      walk_at "go"
      refine ⟨szc rfl, fun w7 hw7 => ?_⟩
      have s_w7 := same_new (o := .lst [.ref w3, .ref w4, .non, .ref w6]) hw7
      have e_w7 : upd G6 w7 (.lst [.ref w3, .ref w4, .non, .ref w6]) w7 = some (.lst [.ref w3, .ref w4, .non, .ref w6]) := upd_same
      generalize upd G6 w7 (.lst [.ref w3, .ref w4, .non, .ref w6]) = G7 at s_w7 e_w7
      have s67 : Same G2 G7 := s_w3.trans (s_w4.trans (s_w5.trans (s_w6.trans s_w7)))
      have s07 : Same H20 G7 := s_w1.trans (s_w2.trans s67)
      refine rd_catL (s67 _ _ e_w2) e_w7 (by rw [rep_len]; exact Nat.le_of_ble_eq_true rfl) fun w8 hw8 => ?_
      have nw8 : w8 ≠ F := (k20.same s07).fl.ne_new hw8
      have s_w8 := same_new (o := .lst ((List.replicate 6 [V.ref q2]).flatten ++ [.ref w3, .ref w4, .non, .ref w6])) hw8
      have e_w8 : upd G7 w8 (.lst ((List.replicate 6 [V.ref q2]).flatten ++ [.ref w3, .ref w4, .non, .ref w6])) w8 = some (.lst ((List.replicate 6 [V.ref q2]).flatten ++ [.ref w3, .ref w4, .non, .ref w6])) := upd_same
      generalize upd G7 w8 (.lst ((List.replicate 6 [V.ref q2]).flatten ++ [.ref w3, .ref w4, .non, .ref w6])) = G8 at s_w8 e_w8
      have kG8 : FK F H20 G8 := Same.fk k20.fl (s07.trans s_w8)
      refine ⟨F, w8, _, rfl, kG8.fl, .inl ⟨e_w8, nw8⟩, List.append_ne_nil_of_right_ne_nil _ (List.cons_ne_nil _ _), by rw [List.length_append, rep_len]; exact Nat.le_of_ble_eq_true rfl, fun H21 v13 k21 hv => ?_⟩
      have dm8 : DaM F G8 v13 := by
        rcases List.mem_append.mp hv with hv | hv
        · rw [List.mem_singleton.mp (rep_mem hv)]
          exact .tup ((s_w6.trans (s_w7.trans s_w8)) _ _ e2_5) (by omega)
        · simp only [List.mem_cons, List.not_mem_nil, or_false] at hv
          rcases hv with rfl | rfl | rfl | rfl
          · exact .lst ((s_w4.trans (s_w5.trans (s_w6.trans (s_w7.trans s_w8)))) _ _ e_w3) nw3
          · have e4 := (s_w5.trans (s_w6.trans (s_w7.trans s_w8))) _ _ e_w4
            obtain ⟨ks, h1, h2⟩ := cut_ints (ns := ms) (lo := none) (hi := some (-1))
            rw [h1] at e4
            exact .tup e4 (by omega)
          · exact .non
          · exact .tup ((s_w7.trans s_w8) _ _ e_w6) (by rw [List.length_replicate, List.length_map]; omega)
      walk_at "go"
      exact hN _ _ ⟨v13, rfl, kG8.trans k21, dm8.fk k21 kG8.fl⟩
    rintro _ H21 ⟨v13, rfl, k21, dm⟩
    have k21' := k20'.trans k21
    have one := one.tk (k21.tk k20.fl)
    obtain ⟨d2, da2, bd2⟩ := dm
    obtain ⟨d, da, bd12, bd1⟩ := dp20.fk k21 k20.fl
    clear two dp20 k20'
    have sh21 := sh8.tk (k21'.tk k8.fl)
    have gp21 := k21'.tup k8.fl gp
    have gr21 := k21'.tup k8.fl gr
    have gR21 := gR.tk (k21'.tk k8.fl)
    have no1 : numsOf (.tuple (ns.map PyData.int)) = ns := ints_back ns
    have cno : ¬ (goodB N R d2 = true ∧ apartB N R ns (numsOf d2) d = true) → claimB N R (.tuple (ns.map PyData.int)) d2 d = false := fun z => claim_no one.good (by rw [no1]; exact z)
    refine seq_cut (fun σ H22 => ∃ b1 : Bool, σ = [some (.ref F), some (.int (lap : Nat)), some (.ref p), some (.ref D), some (.str (pageS N R)), some (.ref Lh), some (.ref Ln), some v7, some (.int (turn : Nat)), some (.ref q1), some (.ref q2), some (.str t), some v12, some v13, some (.bl b1), x15, x16, x17] ∧ Same H21 H22 ∧ (b1 = true → ∃ a b t v1 e, Pr N R F H22 v12 v13 d2 d a b t v1 e) ∧ (b1 = false → claimB N R (.tuple (ns.map PyData.int)) d2 d = false)) (fun Nx hN => ?_) ?_
    · walk_at "go"
      refine ⟨p, v13, N, R, (· ≠ F), d2, rfl, sh21, fo, da2, bd2, fun H22 s22 => ?_⟩
      have da' := da.same s22
      generalize eg2 : goodB N R d2 = g2b
      walk_at "go"
      refine ifb (fun g2 => ?_) fun g2 => ?_
      all_goals rw [← eg2] at g2
      · walk_at "go"
        refine ifb (fun h => ?_) fun h => ?_
        · obtain ⟨a, xs, ds, rfl, rfl, ex, dall⟩ := da'.isT h
          walk_at "go"
          refine ifb (fun h2 => ?_) fun h2 => ?_
          · have h2 : xs.length = 2 := by
              have h2 := of_decide_eq_true h2
              omega
            obtain ⟨x, y, dx, dy, rfl, rfl, hx, hy⟩ := dall.two h2
            walk_at "go"
            refine hN _ _ ⟨isStrB dx, rfl, s22, fun h3 => ?_, fun h3 => cno fun ⟨_, z⟩ => ?_⟩
            · obtain ⟨t, rfl, rfl⟩ := hx.isS h3
              obtain ⟨b, rfl, eb, lb⟩ := good_at g2 (da2.same s22)
              exact ⟨a, b, t, y, dy, rfl, ex, hy, rfl, bd12 _ _ rfl, rfl, eb, lb, g2⟩
            · obtain ⟨t, e, rs, z, _⟩ := apart_iff.mp z
              cases z
              cases h3
          · walk_at "go"
            refine hN _ _ ⟨false, rfl, s22, (fun z => by cases z), fun _ => cno fun ⟨_, z⟩ => ?_⟩
            obtain ⟨t, e, rs, z, _⟩ := apart_iff.mp z
            cases z
            have := dall.len
            rw [this] at h2
            cases h2
        · walk_at "go"
          refine hN _ _ ⟨false, rfl, s22, (fun z => by cases z), fun _ => cno fun ⟨_, z⟩ => ?_⟩
          obtain ⟨t, e, rs, z, _⟩ := apart_iff.mp z
          rw [z] at h
          cases h
      · walk_at "go"
        refine hN _ _ ⟨false, rfl, s22, (fun z => by cases z), fun _ => cno fun ⟨z, _⟩ => ?_⟩
        rw [g2] at z
        cases z
    rintro _ H22 ⟨b1, rfl, s22, h1t, h1f⟩
    have one22 := one.tk (Same.tk s22)
    have sh22 := sh21.tk (Same.tk s22)
    refine seq_cut (fun σ H23 => ∃ b2 : Bool, σ = [some (.ref F), some (.int (lap : Nat)), some (.ref p), some (.ref D), some (.str (pageS N R)), some (.ref Lh), some (.ref Ln), some v7, some (.int (turn : Nat)), some (.ref q1), some (.ref q2), some (.str t), some v12, some v13, some (.bl b2), x15, x16, x17] ∧ Same H22 H23 ∧ (b2 = true → ∃ a b t v1 e rr, Pr N R F H23 v12 v13 d2 d a b t v1 e ∧ t ∈ diffL N ns (numsOf d2) ∧ ringD R e = some rr ∧ (rr.map Rl.bd).sum = 0) ∧ (b2 = false → claimB N R (.tuple (ns.map PyData.int)) d2 d = false)) (fun Nx hN => ?_) ?_
    · walk_at "go"
      refine ifb (fun h => ?_) fun h => ?_
      · obtain ⟨a, b, t', v1, e, pr⟩ := h1t h
        have z := pr.v12
        subst z
        have z := pr.v13
        subst z
        have e12 := pr.at12
        have e13 := pr.at13
        walk_at "go"
        refine ⟨p, q1, b, N, R, ns, numsOf d2, rfl, sh22, n5, one22.at_, e13, one.len, pr.len, fun H23 pd s23 ed => ?_⟩
        have e12 := s23 _ _ e12
        walk_at "go"
        generalize ed2 : decide (t' ∈ diffL N ns (numsOf d2)) = db
        walk_at "go"
        refine ifb (fun h2 => ?_) fun h2 => ?_
        all_goals rw [← ed2] at h2
        · have h2 : t' ∈ diffL N ns (numsOf d2) := of_decide_eq_true h2
          walk_at "go"
          refine ⟨p, v1, N, R, (· ≠ F), e, rfl, sh22.tk (Same.tk s23), fo.r9, pr.da.same s23, pr.bd, fun H24 s24 => ?_⟩
          walk_at "go"
          cases hr : ringD R e with
          | none =>
            have hv : ringV R e = .non := by
              unfold ringV
              rw [hr]
            rw [hv]
            refine rd_eqN0 ?_
            walk_at "go"
            refine hN _ _ ⟨false, rfl, s23.trans s24, (fun z => by cases z), fun _ => cno fun ⟨_, z⟩ => ?_⟩
            obtain ⟨t, e', rs, z, _, _, z2, _⟩ := apart_iff.mp z
            have z := pr.d.symm.trans z
            cases z
            rw [hr] at z2
            cases z2
          | some rr =>
            have hv : ringV R e = .int (rr.map Rl.bd).sum := by
              unfold ringV
              rw [hr]
            rw [hv]
            walk_at "go"
            refine hN _ _ ⟨_, rfl, s23.trans s24, fun z => ⟨a, b, t', v1, e, rr, pr.same (s23.trans s24), h2, hr, of_decide_eq_true z⟩, fun h3 => cno fun ⟨_, z⟩ => ?_⟩
            obtain ⟨t, e', rs, z, _, _, z2, z3, _⟩ := apart_iff.mp z
            have z := pr.d.symm.trans z
            cases z
            rw [hr] at z2
            cases z2
            exact of_decide_eq_false h3 z3
        · walk_at "go"
          refine hN _ _ ⟨false, rfl, s23, (fun z => by cases z), fun _ => cno fun ⟨_, z⟩ => ?_⟩
          obtain ⟨t, e', rs, z, z1, z2, _⟩ := apart_iff.mp z
          have z := pr.d.symm.trans z
          cases z
          exact of_decide_eq_false h2 ((diff_cell fo.nd fo.ne one.len pr.len z1).mpr z2)
      · walk_at "go"
        exact hN _ _ ⟨false, rfl, Same.refl _, (fun z => by cases z), fun _ => h1f h⟩
    rintro _ H23 ⟨b2, rfl, s23, h2t, h2f⟩
    clear h1t h1f one22 sh22
    have s23' := s22.trans s23
    have gp23 := s23' _ _ gp21
    have gr23 := s23' _ _ gr21
    have gR23 := gR21.tk (Same.tk s23')
    refine seq_cut (fun σ H24 => ∃ b3, σ = [some (.ref F), some (.int (lap : Nat)), some (.ref p), some (.ref D), some (.str (pageS N R)), some (.ref Lh), some (.ref Ln), some v7, some (.int (turn : Nat)), some (.ref q1), some (.ref q2), some (.str t), some v12, some v13, some (.bl b3), x15, x16, x17] ∧ Same H23 H24 ∧ claimB N R (.tuple (ns.map PyData.int)) d2 d = b3 ∧ (b3 = true → ∃ a b t v1 e rr, Pr N R F H24 v12 v13 d2 d a b t v1 e ∧ t ∈ diffL N ns (numsOf d2) ∧ ringD R e = some rr ∧ (rr.map Rl.bd).sum = 0 ∧ t ∈ rr.map Rl.hi)) (fun Nx hN => ?_) ?_
    · walk_at "go"
      refine ifb (fun h => ?_) fun h => ?_
      · obtain ⟨a, b, t', v1, e, rr, pr, td, hr, s0⟩ := h2t h
        have z := pr.v12
        subst z
        have z := pr.v13
        subst z
        have e12 := pr.at12
        obtain ⟨ring, hR, ds, rfl, hds, rfl⟩ := ring_in_R (N := N) hr
        obtain ⟨a1, ys, rfl, ey, dally⟩ := pr.da.tupInv
        have dl := dally.len
        have dl2 := pr.bd _ rfl
        walk_at "go"
        refine lcM (n := ys.length) (G := fun H => SqT K H a1 ys) (Y := YAt ys) walk_tup (((ds.map (rAt R)).map Rl.hi).map V.str) (by rw [List.length_map, List.length_map, List.length_map, dl]) (by omega) (fun H8 s => .inl (.inl (s _ _ ey))) (fun j x H8 H8' y hj s hY hy Qy Qn hQ => ?_) fun L H8 hL s e8 => ?_
        · obtain ⟨rfl, hx⟩ := hY
          obtain ⟨dy, hdy, dx⟩ := dally.get hx
          obtain ⟨i, rfl, il, ir, _⟩ := rAt_mem (List.all_eq_true.mp hds _ (List.mem_of_getElem? hdy))
          cases dx
          rw [List.getElem?_map, List.getElem?_map, List.getElem?_map, hdy] at hy
          cases hy
          have gp8 := s _ _ gp23
          have gr8 := s _ _ gr23
          have il2 : i < rs.length := by rw [gR23.1]; exact il
          have at8 := s _ _ (gR23.2 i _ _ (List.getElem?_eq_getElem il2) ir)
          walk_at "go"
          refine rd_ixT gr8 (atI_nat (by rw [List.getElem?_map, List.getElem?_eq_getElem il2] <;> rfl)) ?_
          walk_at "go"
          refine ⟨rs[i], rAt R (.int i), rfl, at8, fun H10 p10 s10 e10 => ?_⟩
          unfold endsL at e10
          walk_at "go"
          exact hQ _ s10
        · walk_at "go"
          have hc : decide (t' ∈ (ds.map (rAt R)).map Rl.hi) = claimB N R (.tuple (ns.map PyData.int)) d2 d := by
            by_cases z : t' ∈ (ds.map (rAt R)).map Rl.hi
            · obtain ⟨tN, _⟩ := diffL_mem.mp td
              have tN : t' ∈ N := let ⟨i, e, _⟩ := diffL_mem.mp td; List.mem_of_getElem? e
              rw [decide_eq_true z]
              exact ((claim_iff one.good).mpr ⟨pr.good, by rw [no1]; exact apart_iff.mpr ⟨t', _, _, pr.d, tN, (diff_cell fo.nd fo.ne one.len pr.len tN).mp td, hr, s0, z⟩⟩).symm
            · rw [decide_eq_false z]
              refine (cno fun ⟨_, q⟩ => ?_).symm
              obtain ⟨t, e', rs, q, _, _, q2, _, q4⟩ := apart_iff.mp q
              have q := pr.d.symm.trans q
              cases q
              rw [hr] at q2
              cases q2
              exact z q4
          exact hN _ _ ⟨_, rfl, s, hc.symm, fun z => ⟨a, b, t', _, _, _, pr.same s, td, hr, s0, of_decide_eq_true z⟩⟩
      · walk_at "go"
        exact hN _ _ ⟨_, rfl, Same.refl _, h2f h, fun z => by cases z⟩
    rintro _ H24 ⟨b3, rfl, s24, eb3, h3t⟩
    clear h2t h2f
    have s24' := s23'.trans s24
    clear s23 s22 s23' gp23 gr23 gR23
    refine seq_cut (fun σ H25 => ∃ ps, σ = [some (.ref F), some (.int (lap : Nat)), some (.ref p), some (.ref D), some (.str (pageS N R)), some (.ref Lh), some (.ref Ln), some v7, some (.int (turn : Nat)), some (.ref q1), some (.ref q2), some (.str t), some v12, some v13, some (.bl b3), x15, some (.ref ps), x17] ∧ Same H24 H25 ∧ H25 ps = some (.tup [.str "apart", .str (pageS N R), .ref q1, v13])) (fun Nx hN => ?_) ?_
    · walk_at "go"
      refine ⟨szc rfl, fun ps hps => ?_⟩
      walk_at "go"
      exact hN _ _ ⟨ps, rfl, same_new hps, upd_same⟩
    rintro _ H25 ⟨ps, rfl, s25, eps⟩
    have s25' := s24'.trans s25
    have one25 := one.tk (Same.tk s25')
    have da1 : Da (· ≠ F) H25 (.ref q1) (.tuple (ns.map PyData.int)) := .tup one25.at_ DaAll.ints
    have bd11 : ∀ ds, PyData.tuple (ns.map PyData.int) = .tuple ds → ds.length ≤ 1000 := fun ds z => by
      cases z
      rw [List.length_map, one.len]
      omega
    have da25 := da.same s25'
    have da225 := da2.same s25'
    refine seq_cut (fun σ H26 => σ = [some (.ref F), some (.int (lap : Nat)), some (.ref p), some (.ref D), some (.str (pageS N R)), some (.ref Lh), some (.ref Ln), some v7, some (.int (turn : Nat)), some (.ref q1), some (.ref q2), some (.str t), some v12, some v13, some (.bl b3), x15, some (.ref ps), x17] ∧ Same H25 H26) (fun Nx hN => ?_) ?_
    · walk_at "go"
      refine ⟨ps, v12, .ref q1, v13, N, R, (· ≠ F), _, d2, d, rfl, eps, fo, da1, da225, da25, bd11, bd2, bd12, fun B1 t1 => ?_⟩
      rw [eb3]
      walk_at "go"
      refine rd_kw2 ?_
      walk_at "go"
      refine ⟨ps, v12, .ref q1, v13, N, R, (· ≠ F), _, d2, d, rfl, t1 _ _ eps, fo, da1.same t1, da225.same t1, da25.same t1, bd11, bd2, bd12, fun B2 t2 => ?_⟩
      rw [eb3]
      walk_at "go"
      refine ⟨szc rfl, fun m1 hm1 => ?_⟩
      have s_m1 := same_new (o := .lst [.bl b3, .bl b3]) hm1
      have e_m1 : upd B2 m1 (.lst [.bl b3, .bl b3]) m1 = some (.lst [.bl b3, .bl b3]) := upd_same
      generalize upd B2 m1 (.lst [.bl b3, .bl b3]) = B3 at s_m1 e_m1
      walk_at "go"
      refine rd_rep2 e_m1 ?_
      walk_at "go"
      refine ⟨szc rfl, fun m2 hm2 => ?_⟩
      have s_m2 := same_new (o := .lst [.bl b3, .bl b3]) hm2
      have e_m2 : upd B3 m2 (.lst [.bl b3, .bl b3]) m2 = some (.lst [.bl b3, .bl b3]) := upd_same
      generalize upd B3 m2 (.lst [.bl b3, .bl b3]) = B4 at s_m2 e_m2
      walk_at "go"
      refine rd_rep2 e_m2 ?_
      generalize twoS b3 b3 = tw
      walk_at "go"
      refine if_f (by simp) ?_
      walk_at "go"
      exact hN _ _ ⟨rfl, t1.trans (t2.trans (s_m1.trans s_m2))⟩
    rintro _ H26 ⟨rfl, s26⟩
    have s26' := s25'.trans s26
    clear da1 da25 da225 one25
    have one26 := one.tk (Same.tk s26')
    have sh26 := sh21.tk (Same.tk s26')
    refine seq_cut (fun σ H27 => σ = [some (.ref F), some (.int (lap : Nat)), some (.ref p), some (.ref D), some (.str (pageS N R)), some (.ref Lh), some (.ref Ln), some v7, some (.int (turn : Nat)), some (.ref q1), some (.ref q2), some (.str t), some v12, some v13, some (.bl b3), x15, some (.ref ps), x17] ∧ Same H26 H27) (fun Nx hN => ?_) ?_
    · walk_at "go"
      refine ifb (fun h => ?_) fun h => ?_
      · obtain ⟨a, b, t', v1, e, rr, pr, td, hr, s0, th⟩ := h3t h
        have z := pr.v13
        subst z
        obtain ⟨ring, hR, _⟩ := ring_in_R (N := N) hr
        have tN : t' ∈ N := let ⟨i, e, _⟩ := diffL_mem.mp td; List.mem_of_getElem? e
        obtain ⟨⟨_, m, hm, fz⟩, _⟩ := claim_law fo hb one.len pr.len (goodB_keeps one.good) tN ((diff_cell fo.nd fo.ne one.len pr.len tN).mp td) hR ring s0 th
        walk_at "go"
        refine ⟨p, q1, b, N, R, ns, numsOf d2, rfl, sh26, fo, one26.at_, (s25.trans s26) _ _ pr.at13, one.len, pr.len, fun H27 c s27 hc => ?_⟩
        have hc := hc hb t' td m hm fz
        subst hc
        walk_at "go"
        exact hN _ _ ⟨rfl, s27⟩
      · walk_at "go"
        exact hN _ _ ⟨rfl, Same.refl _⟩
    rintro _ H27 ⟨rfl, s27⟩
    have s27' := s26'.trans s27
    have k27 := k21'.same s27'
    have one27 := one.tk (Same.tk s27')
    clear one26 sh26
    refine seq_cut (fun σ H28 => ∃ r as ss, σ = [some (.ref F), some (.int (lap : Nat)), some (.ref p), some (.ref D), some (.str (pageS N R)), some (.ref Lh), some (.ref Ln), some v7, some (.int (turn : Nat)), some (.ref q1), some (.ref q2), some (.str t), some v12, some v13, some (.bl b3), x15, some (.ref ps), some (.ref r)] ∧ FK F H27 H28 ∧ H28 r = some (.tup (as.map V.ref)) ∧ StsAt H28 as ss ∧ (∀ s ∈ ss, s.1 ∈ N ∧ -500000 ≤ s.2 ∧ s.2 ≤ 500000)) (fun Nx hN => ?_) ?_
    · walk_at "go"
      refine ⟨F, p, q1, N, R, ns, rfl, k27.fl, sh8.tk (k27.tk k8.fl), fo, one27.at_, one.len, one.bd, fun H28 r as ss k28 er st _ sb => ?_⟩
      walk_at "go"
      exact hN _ _ ⟨r, as, ss, rfl, k28, er, st, sb⟩
    rintro _ H28 ⟨r, as, ss, rfl, k28, er, st, sb⟩
    have k28' := k27.trans k28
    have one28 := one27.tk (k28.tk k27.fl)
    walk_at "go"
    refine ifb (fun h => ?_) fun h => ?_
    · obtain ⟨a, b, t', v1, e, rr, pr, td, hr, s0, th⟩ := h3t h
      have z := pr.v13
      subst z
      obtain ⟨ring, hR, _⟩ := ring_in_R (N := N) hr
      have tN : t' ∈ N := let ⟨i, e, _⟩ := diffL_mem.mp td; List.mem_of_getElem? e
      obtain ⟨_, far⟩ := claim_law fo hb one.len pr.len (goodB_keeps one.good) tN ((diff_cell fo.nd fo.ne one.len pr.len tN).mp td) hR ring s0 th
      have e13 := k28.tup k27.fl ((s25.trans (s26.trans s27)) _ _ pr.at13)
      walk_at "go"
      refine ⟨p, q1, r, as, ss, N, R, ns, rfl, sh8.tk (k28'.tk k8.fl), fo, one28.at_, one.len, (fun x hx => by have := one.bd x hx; omega), er, st, sb, fun H29 v s29 hv => ?_⟩
      have e13 := s29 _ _ e13
      walk_at "go"
      rcases hv with rfl | ⟨q', ks, rfl, eq', rc⟩
      · refine ⟨.none, .tuple ((numsOf d2).map PyData.int), .non, dp_tup e13 ints_da, rfl, shaped_tints, ?_⟩
        walk_at "go"
        exact ⟨_, _, _, _, _, _, _, _, _, _, _, rfl, k28'.same s29⟩
      · refine ⟨.tuple (ks.map PyData.int), .tuple ((numsOf d2).map PyData.int), dp_tup eq' ints_da, dp_tup e13 ints_da, shaped_tints, shaped_tints, ?_⟩
        have ne : PyData.eqv (.tuple (ks.map PyData.int)) (.tuple ((numsOf d2).map PyData.int)) = false := Bool.eq_false_iff.mpr fun z => far ks rc (eqv_ints z)
        rw [ne]
        walk_at "go"
        exact ⟨_, _, _, _, _, _, _, _, _, _, _, rfl, k28'.same s29⟩
    · walk_at "go"
      exact ⟨_, _, _, _, _, _, _, _, _, _, _, rfl, k28'⟩
end
end K59
/-! K59L17 -/
set_option Elab.async false
set_option linter.all false
set_option maxRecDepth 100000
set_option maxHeartbeats 4000000
namespace K59
open PySem PySem.W PySem.Calls PySem.Spec PyProof.Rows L2
local macro_rules | `(tactic| walk_at "hp") => `(tactic| first
  | assumption
  | exact upd_same
  | (refine same_new (by assumption) _ _ ?_; walk_at "hp")
  | (refine (by assumption : Same _ _) _ _ ?_; walk_at "hp")
  | (refine FK.tk (by assumption) (by assumption) _ _ ?_; walk_at "hp"))
local macro_rules | `(tactic| walk_at "sq") => `(tactic| first
  | assumption
  | exact FrzT.sq (by assumption)
  | (refine sqt_new (by assumption) ?_; walk_at "sq")
  | (refine sqt_same ?_ (by assumption); walk_at "sq"))
local macro_rules | `(tactic| walk_at "fz") => `(tactic| first
  | assumption
  | (refine frz_new (by assumption) ?_; walk_at "fz")
  | (refine FrzT.same ?_ (by assumption); walk_at "fz"))
local macro_rules | `(tactic| walk_at "ic") => `(tactic| first
  | ((with_reducible show (0 : Int) < _); decide)
  | exact Or.inl ⟨by decide, by decide⟩
  | exact Or.inr ⟨by decide, by decide⟩
  | exact (show (0 : Int) < _ ∧ _ < (1073741824 : Int) from ⟨by decide, by decide⟩)
  | exact (show (0 : Int) ≤ _ ∧ _ ≤ (1000000 : Int) ∧ Int.natAbs _ < 2 ^ 64 from ⟨by decide, by decide, by decide⟩)
  | exact (⟨by decide, by decide, by decide⟩ : _ ∧ _ ∧ _))
local macro_rules | `(tactic| walk_at "st") => `(tactic| first
  | with_reducible refine rd_var rfl ?_
  | with_reducible refine rd_c ?_
  | with_reducible refine rd_cons ?_
  | with_reducible refine rd_nil ?_
  | with_reducible refine rd_op ?_
  | with_reducible refine rd_cb ?_
  | with_reducible refine rd_call ?_
  | with_reducible refine rd_test ?_
  | with_reducible refine rd_B ?_
  | with_reducible refine rd_bl ?_
  | with_reducible refine rd_un ?_
  | with_reducible refine rd_and ?_
  | with_reducible refine rd_or ?_
  | with_reducible refine rd_not ?_
  | with_reducible refine rd_andV ?_
  | with_reducible refine rd_orV ?_
  | with_reducible refine rd_notV ?_
  | with_reducible refine rd_if ?_
  | with_reducible refine rd_chain ?_
  | with_reducible refine rd_I0 ?_
  | with_reducible refine rd_U ?_
  | with_reducible refine rd_eqI ?_
  | with_reducible refine rd_neI ?_
  | with_reducible refine rd_eqS ?_
  | with_reducible refine rd_neS ?_
  | with_reducible refine rd_nn ?_
  | with_reducible refine rd_asg ?_
  | with_reducible refine rd_gname ?_
  | with_reducible refine rd_seq ?_
  | with_reducible refine rd_ifS ?_
  | with_reducible refine rd_ret ?_
  | with_reducible refine rd_next ?_
  | with_reducible refine rd_cont ?_
  | with_reducible refine rd_drop ?_
  | with_reducible refine rd_par ?_
  | with_reducible refine rd_vs2 ?_
  | with_reducible refine rd_gsub ?_
  | with_reducible refine rd_gcons ?_
  | with_reducible refine rd_gnil ?_
  | with_reducible refine rd_tup ?_
  | with_reducible refine rd_lst ?_
  | with_reducible refine rd_sl ?_
  | with_reducible refine rd_part ?_
  | with_reducible refine rd_nopart ?_
  | with_reducible refine rd_i1 ?_
  | with_reducible refine rd_bm ?_
  | with_reducible refine rd_yes ?_
  | with_reducible refine rd_lcT ?_
  | with_reducible refine rd_lcL ?_
  | with_reducible refine rd_lcR1 ?_
  | with_reducible refine rd_lcS ?_
  | with_reducible refine rd_forT ?_
  | with_reducible refine rd_forL ?_
  | with_reducible refine rd_forR1 ?_
  | with_reducible refine rd_atS ?_
  | with_reducible refine rd_forEn ?_
  | with_reducible refine rd_dget ?_
  | with_reducible refine rd_din ?_
  | with_reducible refine rd_dget2 ?_
  | with_reducible refine rd_dput ?_
  | with_reducible refine rd_disp ?_
  | with_reducible refine rd_pcons ?_
  | with_reducible refine rd_pnil ?_
  | with_reducible refine rd_dcL ?_
  | with_reducible refine rd_lcEn ?_
  | with_reducible refine rd_yS ?_
  | with_reducible refine rd_m1 ?_
  | with_reducible refine rd_meth ?_
  | with_reducible refine rd_fld ?_
  | with_reducible refine rd_sfld ?_
  | with_reducible refine rd_make ?_
  | with_reducible refine rd_fmt ?_
  | with_reducible refine rd_js ?_
  | with_reducible refine rd_js0 ?_
  | with_reducible refine iteT ?_
  | with_reducible refine iteF ?_
  | ((with_reducible refine isi_int (d := ?d1) (N := ?n1) ?h1 ?_); (case h1 => assumption))
  | ((with_reducible refine isi_bool (d := ?d1) (N := ?n1) ?h1 ?_); (case h1 => assumption))
  | ((with_reducible refine isi_str (d := ?d1) (N := ?n1) ?h1 ?_); (case h1 => assumption))
  | ((with_reducible refine isi_tuple (d := ?d1) (N := ?n1) ?h1 ?_); (case h1 => assumption))
  | with_reducible refine isi_str (N := fun _ => True) (Da.str _) ?_
  | with_reducible refine isi_int (N := fun _ => True) (Da.int _) ?_
  | with_reducible refine isi_bool (N := fun _ => True) (Da.int _) ?_
  | with_reducible refine isi_str (N := fun _ => True) (Da.int _) ?_
  | ((with_reducible show (wipe _ _ = wipe _ _) ∧ _); refine ⟨rfl, ?_⟩)
  | ((with_reducible show Ends.nx _ _ _); dsimp only)
  | ((with_reducible show Ends.rt _ _ _); dsimp only)
  | ((with_reducible show Ends.ct _ _ _); dsimp only)
  | ((with_reducible refine rd_ixT (xs := ?x1) (v := ?v1) ?h1 ?e1 ?_); (case h1 => walk_at "hp"); (case e1 => rfl))
  | ((with_reducible refine rd_ixL (xs := ?x1) (v := ?v1) ?h1 ?e1 ?_); (case h1 => walk_at "hp"); (case e1 => rfl))
  | ((with_reducible refine rd_lenT (xs := ?x1) ?h1 ?_); (case h1 => walk_at "hp"))
  | ((with_reducible refine rd_lenL (xs := ?x1) ?h1 ?_); (case h1 => walk_at "hp"))
  | ((with_reducible refine rd_tupOf (xs := ?x1) ?h1 ?_); (case h1 => walk_at "hp"))
  | ((with_reducible refine rd_all (bs := ?x1) ?h1 ?_); (case h1 => walk_at "hp"))
  | ((with_reducible refine rd_atT (xs := ?x1) ?h1 ?_); (case h1 => walk_at "hp"))
  | ((with_reducible refine rd_atL (xs := ?x1) ?h1 ?_); (case h1 => walk_at "hp"))
  | ((with_reducible refine rd_gtup (xs := ?x1) ?h1 ?e1 ?_); (case h1 => walk_at "hp"); (case e1 => rfl))
  | ((with_reducible refine rd_atEn (xs := ?x1) ?h1 ?_); (case h1 => walk_at "hp"))
  | ((with_reducible refine rd_slT (xs := ?x1) ?h1 ?_); (case h1 => walk_at "hp"))
  | ((with_reducible refine rd_slL (xs := ?x1) ?h1 ?_); (case h1 => walk_at "hp"))
  | ((with_reducible refine rd_inN (N := ?x1) ?h1 ?_); (case h1 => walk_at "hp"))
  | ((with_reducible refine rd_inL (N := ?x1) ?h1 ?_); (case h1 => walk_at "hp"))
  | ((with_reducible refine rd_notInN (N := ?x1) ?h1 ?_); (case h1 => walk_at "hp"))
  | ((with_reducible refine rd_notInL (N := ?x1) ?h1 ?_); (case h1 => walk_at "hp"))
  | with_reducible refine rd_tm ?_
  | ((with_reducible refine rd_isF (xs := ?x1) ?h1 ?_); (case h1 => walk_at "fz"))
  | ((with_reducible refine rd_lenTq (xs := ?x1) ?h1 ?_); (case h1 => walk_at "sq"))
  | ((with_reducible refine rd_atTq (xs := ?x1) ?h1 ?_); (case h1 => walk_at "sq"))
  | ((with_reducible refine rd_atEnq (xs := ?x1) ?h1 ?_); (case h1 => walk_at "sq"))
  | ((with_reducible refine rd_slTq (xs := ?x1) ?h1 ?_); (case h1 => walk_at "sq"))
  | ((with_reducible refine rd_inNq (N := ?x1) ?h1 ?_); (case h1 => walk_at "sq"))
  | ((with_reducible refine rd_setL (xs := ?x1) (j := ?j1) ?h1 ?e1 ?_); (case h1 => walk_at "hp"); (case e1 => rfl))
  | with_reducible refine rd_int1 ?_
  | with_reducible refine rd_x1 ?_
  | with_reducible refine rd_x2 ?_
  | ((with_reducible refine rd_tyL (xs := ?x1) ?h1 ?_); (case h1 => walk_at "hp"))
  | ((with_reducible refine rd_ixsL (xs := ?x1) (v := ?v1) ?h1 ?e1 ?_); (case h1 => walk_at "hp"); (case e1 => rfl))
  | ((with_reducible refine rd_ixsT (xs := ?x1) (v := ?v1) ?h1 ?e1 ?_); (case h1 => walk_at "hp"); (case e1 => rfl))
  | ((with_reducible refine rd_I ?c1 ?_); (case c1 => walk_at "ic"))
  | ((with_reducible refine if_t ?hb1 ?_); (case hb1 => rfl))
  | ((with_reducible refine if_f ?hb1 ?_); (case hb1 => rfl)))
local macro_rules | `(tactic| walk_at "go") => `(tactic| repeat (first | walk_at "st" | dsimp only))
section
variable {P : Program} {w : World} {K : Frag} {mg : Str → Option Value} {base : Heap}

theorem sql_same {H H' : Hp} {p : Addr} {xs : List V} (h : SqL K H p xs) (s : Same H H') : SqL K H' p xs := by
  rcases h with (h | ⟨o, h⟩) | h
  · exact .inl (.inl (s _ _ h))
  · exact .inl (.inr ⟨o, s _ _ h⟩)
  · exact .inr h
theorem all_true : ∀ n : Nat, (List.replicate n true).all id = true
  | 0 => rfl
  | n + 1 => by
    rw [List.replicate_succ, List.all_cons, all_true n] <;> rfl
abbrev N_law : List Str := ["_law_script", "_law_k"]
theorem sc_law : FnScope N_law ["_law_script"] (defScope s_law) := ⟨rfl, rfl, rfl, by decide +kernel, rfl, by decide +kernel, by decide +kernel⟩
def sp_law (K : Frag) : Sp := fun vs H Q _ => ∃ a, ∃ ns : List Int, vs = [.ref a] ∧ SqL K H a (ns.map V.int) ∧ ns.length ≤ 63 ∧ ∀ H', Q (.bl true) H'
theorem g_law (S : Sys K mg) {fd : FuncData} (FD : FunD K "law" "law" (defArgs s_law) (defBody s_law) (defScope s_law) [] [] (He.ga K "law") fd) : FnG P w K mg base 10 (He.ga K "law") fd ["_law_script"] (sp_law K) := by
  refine fnG FD sc_law ?_ ?_
  · rintro vs H Q E ⟨_, _, rfl, _⟩
    rfl
  · rintro cdv A outer s H vs Q E gd hr ⟨a, ns, rfl, hs, nl, qq⟩
    refine ⟨_, pss_one (ps_ret (pe_callB (cr_allC (K := K) rfl rfl) (by rfl) S.n_all (by decide +kernel) (pa_cons (pe_lc (own := [("_law_k", 1)]) (g := gName 1) (tt := tYes) rfl sc_law.nd (pi_range1 (by rfl) S.n_range (pa_cons (pe_callB (call_max2 rfl) (by rfl) S.n_max (by decide +kernel) (pa_cons pe_int (pa_cons (pe_callB (call_min2 rfl) (by rfl) S.n_min (by decide +kernel) (pa_cons (pe_callB (call_len_seqC (K := K) rfl) (by rfl) S.n_len (by decide +kernel) (pa_cons (pv 0) pa_nil)) (pa_cons pe_int pa_nil))) pa_nil))) pa_nil)) (blkOk_by (N := N_law) (sc := defScope s_law) (by decide +kernel)) (fun _ _ _ _ _ => (pg_name (i := 1) sc_law.nd rfl (Or.inl rfl))) (fun _ _ _ _ _ => pts_nil) (fun _ _ _ _ _ => (pe_g (c_L_right (K := K) S) gd hr (by decide) rfl (pa_cons (C8.pe_c (c_L_flask (K := K) S) hr (by decide) rfl (pa_cons (pv 0) (pa_cons (pv 1) pa_nil))) pa_nil)))) pa_nil))), ?_⟩
    walk_at "go"
    refine ⟨a, _, rfl, .inl hs, ?_⟩
    walk_at "go"
    generalize (ns.map V.int).length = m
    generalize ej : (if (if (4 : Int) < (m : Nat) then (4 : Int) else (m : Nat)) > 2 then (if (4 : Int) < (m : Nat) then (4 : Int) else (m : Nat)) else 2) = j
    have jb : 2 ≤ j ∧ j ≤ 4 := by
      rw [← ej]
      split <;> split <;> omega
    clear ej
    refine ⟨by omega, by omega, ?_⟩
    refine lcM (n := j.toNat) walk_r0 (List.replicate j.toNat (.bl true)) (List.length_replicate ..) (by omega) (fun _ _ => trivial) (fun i x H1 H1' y hi s hY hy Qy Qn hQ => ?_) fun L H1 hL s e => ?_
    · obtain ⟨rfl, rfl⟩ := hY
      obtain rfl : y = .bl true := List.eq_of_mem_replicate (List.mem_of_getElem? hy)
      walk_at "go"
      refine ⟨a, i, ns, rfl, sql_same hs s, by omega, fun H2 F s2 nF fl2 => ?_⟩
      walk_at "go"
      refine ⟨F, rfl, fl2, fun H3 k3 => hQ _ fun b o eb => ?_⟩
      exact k3.kp _ _ (s2 _ _ eb) (ne_of_none eb nF)
    · walk_at "go"
      have e : H1 L = some (.lst ((List.replicate j.toNat true).map V.bl)) := by
        rw [e, List.map_replicate]
      refine rd_all e ?_
      rw [all_true]
      exact qq _
end
end K59
/-! K59End -/
set_option Elab.async false
set_option linter.all false
set_option maxRecDepth 100000
set_option maxHeartbeats 4000000
namespace K59
open PySem PySem.W PySem.Calls PySem.Spec PyProof.Rows L2
/-! ### the law's call at the state behind the top -/
theorem vs_of : ∀ {us : List Value} {ns : List Int}, IntsAre us ns → Vals (ns.map V.int) us
  | _, _, .nil => .nil
  | _, _, .cons _ t rest => .cons ⟨t, rfl⟩ (vs_of rest)
section
variable {P : Program} {w : World} {K : Frag} {mg mb : Str → Option Value} {k : Nat} {f a : Addr} {fd : FuncData} {x : Str} {sp : Sp} {s : Shared} {us : List Value} {ns : List Int}
/-- over an abstract heap that tracks the script alone, or nothing -/
theorem call_at (Hp0 : Hp) (KX : K.In s.heap) (nsM : s.heap.Ns mainGlobals mg) (nsB : s.heap.Ns builtinsNs mb) (mbOk : ∀ x : Str, x ≠ "__name__" → mb x = bootBuiltins x) (noLim : s.heap.NoLimit) (noGen : s.gens = #[])
    (obj : s.heap.get? a = some { cls := .type "list", data := .seq us.toArray }) (room : Room k callerA) (fn : ∀ base : Heap, K.In base → base.Ns mainGlobals mg → FnG P w K mg base k f fd [x] sp) (bi : ∀ (s : Shared) (u : Value), BindsTo s fd ⟨[u], []⟩ [(x, u)])
    (only : ∀ b u, Hp0 b = some u → b = a ∧ K.lookup a = none ∧ ∃ o ys, u = .frz o (.lst ys)) (ok : HOk P w Hp0 s.heap) (hsp : sp [.ref a] Hp0 (fun v _ => v = .bl true) C8.E0) :
    codeAny (model P w) callerA (.call (.ref f) ⟨[.ref a], []⟩) (fun r s' => r = .ok (.ret (.bool true)) ∧ OldK s.heap s'.heap ∧ s'.os = s.os ∧ AllBare s'.gens) s := by
  have free : ∀ {b : Addr} {o : Obj}, s.heap.get? b = some o → (b = a → False) → Hp0 b = none := fun {b o} _ n => by
    cases z : Hp0 b with
    | none => rfl
    | some u => exact (n (only b u z).1).elim
  have nsUp : ∀ {b : Addr} {m : Str → Option Value}, s.heap.Ns b m → (hidT s.heap Hp0).Ns b m := fun {b m} ⟨o, es, ep, g, dt, rest⟩ => ⟨o, es, ep, hidT_get g (free g fun z => by
    rw [z, obj] at g
    cases g
    exact Data.noConfusion dt), dt, rest⟩
  have inK : K.In (hidT s.heap Hp0) := fun b o z => by
    refine hidT_get (KX b o z) ?_
    cases z2 : Hp0 b with
    | none => rfl
    | some u =>
      obtain ⟨rfl, z3, _⟩ := only b u z2
      rw [z] at z3
      cases z3
  obtain ⟨mc, lim1, lim2⟩ := noLim
  have env : Env0 P w K mg (hidT s.heap Hp0) callerA [] s Hp0 := {
    frames := rfl
    mod := ⟨inK, nsUp nsM, ⟨mb, nsUp nsB, mbOk⟩, ⟨mc, nsUp lim1, lim2⟩⟩
    bs := fun _ _ z => of_hidT z
    bsz := Nat.le_of_eq (hidT_size _ _)
    funs := trivial
    frf := fun _ z => nomatch z
    hok := ok
    bare := .of_eq noGen }
  refine codeAny_mono ((fn _ inK (nsUp nsM)).runG callerA [] s Hp0 ⟨[.ref a], []⟩ [.ref a] [.ref a] _ C8.E0 rfl room env (bi s (.ref a)) (.cons rfl .nil) hsp) fun r s2 z => ?_
  cases r with
  | error _ => exact z.elim
  | ok fl =>
    cases fl with
    | ret u =>
      obtain ⟨v, H2, hos, hbare, un, ok2, rel, rfl⟩ := z
      cases rel
      refine ⟨rfl, OldK.of_keep fun b o g => ?_, hos, hbare⟩
      cases z : Hp0 b with
      | none => exact un.keep b o g z (fun z => nomatch z) (fun z => nomatch z)
      | some u =>
        obtain ⟨_, _, ob, ys, rfl⟩ := only b u z
        have g1 := (ok b _ z).1
        have g2 := (ok2 b _ (un.frzs b ob _ z)).1
        rw [g] at g1
        cases g1
        exact g2
    | next => exact z.elim
    | brk => exact z.elim
    | cont => exact z.elim
theorem call_law (KX : K.In s.heap) (nsM : s.heap.Ns mainGlobals mg) (nsB : s.heap.Ns builtinsNs mb) (mbOk : ∀ x : Str, x ≠ "__name__" → mb x = bootBuiltins x) (noLim : s.heap.NoLimit) (noGen : s.gens = #[])
    (obj : s.heap.get? a = some { cls := .type "list", data := .seq us.toArray }) (hi : IntsAre us ns) (hl : ns.length ≤ sizeLine) (room : Room k callerA) (fn : ∀ base : Heap, K.In base → base.Ns mainGlobals mg → FnG P w K mg base k f fd [x] sp) (bi : ∀ (s : Shared) (u : Value), BindsTo s fd ⟨[u], []⟩ [(x, u)])
    (hsp : ∀ H : Hp, SqL K H a (ns.map V.int) → sp [.ref a] H (fun v _ => v = .bl true) C8.E0) :
    codeAny (model P w) callerA (.call (.ref f) ⟨[.ref a], []⟩) (fun r s' => r = .ok (.ret (.bool true)) ∧ OldK s.heap s'.heap ∧ s'.os = s.os ∧ AllBare s'.gens) s := by
  have rel := vs_of hi
  have len := hi.length
  cases inK : K.lookup a with
  | some o =>
    have z := KX a o inK
    rw [obj] at z
    cases z
    refine call_at (fun _ => none) KX nsM nsB mbOk noLim noGen obj room fn bi (fun b u z => nomatch z) (fun b u z => nomatch z) (hsp _ (.inr ⟨_, us.toArray, _, inK, rfl, rfl, rfl, ?_, ?_⟩))
    · rw [List.size_toArray, len]
      exact hl
    · simpa using rel
  | none =>
    have at_ : ∀ b u, (if b = a then some (HO.frz { cls := .type "list", data := .seq us.toArray } (.lst (ns.map V.int))) else none) = some u → b = a ∧ u = .frz { cls := .type "list", data := .seq us.toArray } (.lst (ns.map V.int)) := fun b u z => by
      by_cases e : b = a
      · rw [if_pos e] at z
        exact ⟨e, (Option.some.inj z).symm⟩
      · rw [if_neg e] at z
        cases z
    refine call_at (fun b => if b = a then some (.frz { cls := .type "list", data := .seq us.toArray } (.lst (ns.map V.int))) else none) KX nsM nsB mbOk noLim noGen obj room fn bi (fun b u z => ?_) (fun b u z => ?_) (hsp _ (.inl (.inr ⟨_, if_pos rfl⟩)))
    · obtain ⟨rfl, rfl⟩ := at_ b u z
      exact ⟨rfl, inK, _, _, rfl⟩
    · obtain ⟨rfl, rfl⟩ := at_ b u z
      exact ⟨obj, by rw [List.length_map]; exact hl, us, _, rel, obj⟩
end
theorem run (w : World) : HandSHeadRun.RunEq R qv hk ob 12000 loose w := by
  intro os
  have r1 := run1 w os
  have r2 := run2 w os
  show (endS w os).map _ = _
  cases e : endS w os with
  | none =>
    rw [e] at r1
    cases r1
  | some s =>
    rw [e] at r1 r2
    have q1 := Option.some.inj r1
    have q2 := Option.some.inj r2
    show some (_, _, ob s) = _
    rw [q2]
    exact congrArg (fun z : Bool × _ => some (z.1, z.2, valM fn)) q1
end K59
open PySem PySem.W PySem.Calls PyProof.Rows
theorem PySem.Challenge.cw_typedonce_k59_whole_apart_claimed_holds : PySem.Challenge.rw_typedonce_k59_whole_apart_claimed.Holds := by
  w_on; o_law
  refine HandSHeadRun.head_any (r := OpenLaw.row PySem.Challenge.rw_typedonce_k59_whole_apart_claimed) (q := K59.qv) (H := K59.hk) (ob := K59.ob) (M := 12000) (loose := K59.loose) (d := HandSHeadRun.topDef (OpenLaw.row PySem.Challenge.rw_typedonce_k59_whole_apart_claimed).prog 91) (kwd := []) K59.ob_eq
    (by kernel_rfl) (fun s => by kernel_rfl) K59.run (by kernel_rfl) (by kernel_rfl) (by kernel_rfl) (by rfl) (by first | assumption | decide +kernel) (by decide +kernel) ⟨rfl, rfl, rfl, rfl, rfl, by decide +kernel⟩ ?hw ?hc
  case hw => w_witness2
  case hc =>
    refine Att.attach_call (n := 63) rfl (by kernel_rfl) ?_
    intro w s0 s mg mb f o pm cd doc a us ns G Y ho hd hcd hmg0 obj isI len gens
    obtain ⟨K, KX, c⟩ := Y
    have S : K59.Sys K mg := ⟨⟨s.heap, KX, G.T.g⟩, c⟩
    have hmg : mg ("law" : PySem.Str) = some (.ref f) := by
      have e : (HandSHeadRun.topDef (OpenLaw.row PySem.Challenge.rw_typedonce_k59_whole_apart_claimed).prog 91).name = ("law" : PySem.Str) := by kernel_rfl
      rw [← e]
      exact hmg0
    have ef := hmg.symm.trans S.g_law
    cases ef
    obtain ⟨fd, FD⟩ := S.f_D_law
    exact K59.call_law (sp := K59.sp_law K) (x := "_law_script") (k := 10) KX G.T.g G.T.b G.T.builtins G.T.nolimit gens obj isI (Nat.le_trans len (by decide)) ⟨rfl, by decide, by decide⟩ (fun base h1 h2 => K59.g_law ⟨⟨base, h1, h2⟩, c⟩ FD)
      (fun s u => L2.FunD.bindsA (ps := ["_law_script"]) FD (fun _ _ _ _ _ _ us hl => match us, hl with | [_], _ => rfl) s [u] rfl) fun H h => ⟨a, ns, rfl, h, len, fun _ => rfl⟩
